/- Counts: the generators of limits and of numbers give a result; Holds, both ways. No condition. -/
import Derived.Test.YtlajingmjmnfgaaGreatDoorGenAll
import Derived.Test.YtlajingmjmnfgaaGreatDoorOk
set_option linter.all false
open List Go.IntKind
namespace Go.Proofs.YtlajingmjmnfgaaGreatDoor
open Go.Sim
def QBD {p n:Int} (hp:I64 p):Ok (QaF p n) (λr=>0<=r/\(1<=n->r<n)):=by
 have hp':=hp;unfold I64 at hp';have key:∀q:Int,0<=q->Ok (if decide (n<1)=true then some 0 else (nz n).bind λ_=>some (Int.tmod q n)) (λr=>0<=r/\(1<=n->r<n)):=λq hq=>by
  refine Ok.ite (λh=>?_) (λh=>?_)
  ·have:n<1:=ZS h;exact Ok.mk ⟨ZR _,λh=>by omega⟩
  ·have:¬n<1:=Yk h;rw[QnZ (by omega)];exact Ok.mk ⟨Int.tmod_nonneg _ hq,λ_=>Int.tmod_lt_of_pos _ (by omega)⟩
 unfold QaF;refine Ok.bind (P:=λq=>0<=q) (Ok.ite (λh=>?_) (λh=>?_)) (λq hq=>key q hq)
 ·have:p<0:=ZS h;refine Ok.mk ?_;have e1:i64.wrap (p+1)=p+1:=w64 (by omega) (by omega);rw[e1,w64 (by omega) (by omega)];omega
 ·have:¬p<0:=Yk h;exact Ok.mk (by omega)
section
variable {β:Type} {Q:β->Prop}
def Ok.arnd {p n:Int} {f:Int->Option β} (hp:I64 p) (hn:1<=n) (k:∀r,0<=r->r<n->Ok (f r) Q):Ok ((QaF p n).bind f) Q:=(QBD hp).bind λr h=>k r h.1 (h.2 hn)
def at_ok {l:List Int} {i n:Int} (hl:∀x∈l,I64 x) (hn:1<=n):Ok (Qcd l i n) (λr=>0<=r/\r<n):=by unfold Qcd;refine Ok.ite (λh=>Ok.mk ⟨ZR _,by omega⟩) (λh=>?_);simp only[Bool.or_eq_false_iff,ZJ] at h;refine Ok.idx (by omega) (by omega) λv hv _=>?_;exact Ok.arnd (hl v hv) hn λr h0 h1=>Ok.mk ⟨h0,h1⟩
def Ok.at1 {l:List Int} {i n:Int} {f:Int->Option β} (hl:∀x∈l,I64 x) (hn:1<=n) (k:∀r,0<=r->r<n->Ok (f r) Q):Ok ((Qcd l i n).bind f) Q:=(at_ok hl hn).bind λr h=>k r h.1 h.2
end
def toC (x:Qv):Qk:=⟨x.A,x.B,x.Mul,x.Xh⟩
def nth (c:List Int) (i:Int):Int:=c.getD i.toNat 0
def bndS (l:Qk) (c:List Int):Int:=if l.B<0 then l.Mul else l.Mul * nth c l.B
def Qn1 (l:Qk) (c:List Int):Bool:=if l.Xh=true then decide (nth c l.A>=bndS l c) else decide (nth c l.A<=bndS l c)
structure VL (l:Qk) (n:Int):Prop where
 a0:0<=l.A
 a1:l.A<n
 b0:-1<=l.B
 b1:l.B<n
 m0:0<=l.Mul
 m1:l.Mul<=65536
def QfR {c:List Int} {i:Int} (h0:0<=i) (h1:i<c.length):idx c i=some (nth c i):=by
 have hlt:i.toNat<c.length:=by omega
 rw[QgA c h0,Zb hlt];unfold nth;rw[Zf,Zb hlt];rfl
def Qcj {c:List Int} {i:Int} (h0:0<=i) (h1:i<c.length):nth c i∈c:=by
 have hlt:i.toNat<c.length:=by omega
 unfold nth;rw[Zf,Zb hlt];exact Zk hlt
def QBE {a b:Int} (a0:0<=a) (a1:a<=65536) (b0:0<=b) (b1:b<=65536):0<=a * b/\a * b<=4294967296:=⟨Int.mul_nonneg a0 b0,Int.le_trans (Int.mul_le_mul a1 b1 b0 (by decide)) (by decide)⟩
def fIx {α:Type} (s:List α) (p:α->Bool):Int:=match s.findIdx? p with | some k=>(k:Int) | none=>-1
def QBF {α:Type} (s:List α) (p:α->Bool):decide (fIx s p>=0)=s.any p:=by
 unfold fIx
 cases h:s.findIdx? p with
 | none=>
  rw[findIdx?_eq_none_iff] at h;have:s.any p=false:=by rw[any_eq_false];intro x hx;simpa using h x hx
  rw[this];rfl
 | some k=>obtain⟨hk,hp,_⟩:=ZC.1 h;have:s.any p=true:=Yn.2 ⟨_,Zk hk,hp⟩;rw[this];exact decide_eq_true (Int.natCast_nonneg k)
def Qn2 {α:Type} (s:List α) (p:α->Bool) {body:Int->Option (Int⊕(Unit⊕Int))}
  (hb:∀k (h:k<s.length),body (k:Int)=if p s[k]=true then some (.inr (.inr (k:Int))) else some (.inl ((k+1:Nat):Int))) (he:body (s.length:Int)=some (.inr (.inl ()))):
  Qm body (0:Int)=some (match s.findIdx? p with | some k=>.inr (k:Int) | none=>.inl ()):=by
 obtain⟨q,hq⟩:∃q:Nat->Bool,∀k (h:k<s.length),q k=p s[k]:=⟨λk=>if h:k<s.length then p s[k] else false,λk h=>dif_pos h⟩
 rcases Qhs (ρ:=Unit⊕Int) s.length q (.inl ()) (λk=>.inr (k:Int))
  (λk hk hp=>by rw[hb k hk,Zd (by rw[<-hq k hk,hp];decide)]) (λk hk hp=>by rw[hb k hk,Zc (by rw[<-hq k hk,hp])]) he with⟨k,hk,hp,hj,e⟩ | ⟨hp,e⟩
 ·have:s.findIdx? p=some k:=by
   rw[ZC];refine⟨hk,by rw[<-hq k hk,hp],λj hj'=>?_⟩;have:=hj j hj';rw[hq j (by omega)] at this;simp[this]
  rw[e,this]
 ·have:s.findIdx? p=none:=by
   rw[findIdx?_eq_none_iff];intro x hx;obtain⟨k,hk,rfl⟩:=ZY hx;have:=hp k hk
   rwa [hq k hk] at this
  rw[e,this]
def Qml {l:List Int} {k:Nat} (h:k<l.length):nth l (k:Int)=l[k]:=by simp[nth,Zf,h]
def QBG {l:List Int} {i j n:Int} (hi:0<=i) (hj:0<=j) (h:i<l.length):nth (l.set i.toNat n) j=if i=j then n else nth l j:=by
 obtain⟨a,rfl⟩:=Zy hi;obtain⟨b,rfl⟩:=Zy hj;unfold nth;simp only[Zq,Zf,getElem?_set];by_cases e:a=b
 ·subst e;have:a<l.length:=by omega
  simp[this]
 ·have e':¬((a:Int)=(b:Int)):=by omega
  rw[Zd e,Zd e']
def QsX {a m x:Int} (hm:0<m):(a+m - 1) / m<=x↔a<=m * x:=by
 constructor
 ·intro h;have h1:=Int.lt_mul_ediv_self_add (x:=a+m - 1) hm;have h2:m * ((a+m - 1) / m)<=m * x:=Int.mul_le_mul_of_nonneg_left h (by omega);omega
 ·intro h;have h1:(a+m - 1) / m<x+1:=by
   rw[Int.ediv_lt_iff_lt_mul hm,Int.add_mul,Int.one_mul,Int.mul_comm x m];omega
  omega
def u64w {n:Int} (h0:0<=n) (h1:n<18446744073709551616):u64.wrap n=n:=by simp only[IntKind.wrap,IntKind.bits,IntKind.signed];simp;omega
def Qn3 {m:Nat} (h:m<2 ^ 64):(BitVec.ofInt 64 (m:Int)).toNat=m:=by rw[BitVec.toNat_ofInt];have:((m:Int) % ((2 ^ 64:Nat):Int))=m:=Int.emod_eq_of_lt (by omega) (by omega);rw[this];simp
def QhJ {a b:Nat} (ha:a<2 ^ 64) (hb:b<2 ^ 64):iand .u64 (a:Int) (b:Int)=((a&&& b:Nat):Int):=by unfold iand;show u64.wrap (((BitVec.ofInt 64 (a:Int)&&& BitVec.ofInt 64 (b:Int)).toNat:Nat):Int)=_;rw[BitVec.toNat_and,Qn3 ha,Qn3 hb];have:=Nat.and_lt_two_pow a hb;exact u64w (by omega) (by omega)
def num (S:List Nat):Nat:=S.foldr (λi a=>2 ^ i+a) 0
def Up (S:List Nat):Prop:=S.Pairwise (·< ·)
def QBH (q j:Nat):(2 * q+1).testBit (j+1)=q.testBit j:=by rw[Nat.testBit_succ];congr 1;omega
def Qya (q j:Nat):(2 * q).testBit (j+1)=q.testBit j:=by rw[Nat.testBit_succ];congr 1;omega
def Qyb (q:Nat):(2 * q+1).testBit 0=true:=by simp
def QvT (q:Nat):(2 * q).testBit 0=false:=by simp
def oh1 (x:Nat):Nat:=((x>>>1)&&& 6148914691236517205)+(x&&& 6148914691236517205)
def oh2 (x:Nat):Nat:=((x>>>2)&&& 3689348814741910323)+(x&&& 3689348814741910323)
def oh3 (x:Nat):Nat:=((x>>>4)+x)&&& 1085102592571150095
def oh4 (x:Nat):Nat:=x+(x>>>8)
def oh5 (x:Nat):Nat:=x+(x>>>16)
def oh6 (x:Nat):Nat:=(x+(x>>>32))&&& 127
def ones (x:Nat):Nat:=oh6 (oh5 (oh4 (oh3 (oh2 (oh1 x)))))
def og1 (x:Int):Int:=u64.wrap ((iand .u64 (ishr .u64 x (1:Int)) (6148914691236517205:Int))+(iand .u64 x (6148914691236517205:Int)))
def og2 (x:Int):Int:=u64.wrap ((iand .u64 (ishr .u64 x (2:Int)) (3689348814741910323:Int))+(iand .u64 x (3689348814741910323:Int)))
def og3 (x:Int):Int:=iand .u64 (u64.wrap ((ishr .u64 x (4:Int))+x)) (1085102592571150095:Int)
def og4 (x:Int):Int:=u64.wrap (x+(ishr .u64 x (8:Int)))
def og5 (x:Int):Int:=u64.wrap (x+(ishr .u64 x (16:Int)))
def og6 (x:Int):Int:=iand .i64 (i64.wrap (u64.wrap (x+(ishr .u64 x (32:Int))))) (127:Int)
def QtY (x:Int):QeG x=some (og6 (og5 (og4 (og3 (og2 (og1 x)))))):=rfl
def Qg8 (m k:Nat) (hk:k<=64):ishr .u64 (m:Int) (k:Int)=((m>>>k:Nat):Int):=by
 unfold ishr;rw[Zq,show u64.bits=64 from rfl,Nat.min_eq_left hk,Int.fdiv_eq_ediv_of_nonneg _ (by exact_mod_cast Nat.zero_le (2 ^ k)),Nat.shiftRight_eq_div_pow]
 norm_cast
def Qja (m k:Nat):m>>>k<=m:=by rw[Nat.shiftRight_eq_div_pow];exact Nat.div_le_self _ _
def uadd {a b:Nat} (h:a+b<18446744073709551616):u64.wrap ((a:Int)+(b:Int))=((a+b:Nat):Int):=by rw[u64w (by omega) (by omega)];omega
def og1_is {x:Nat} (h:x<2 ^ 64):og1 (x:Int)=(oh1 x:Int)/\oh1 x<2 ^ 64:=by have h1:=Nat.and_le_right (n:=x>>>1) (m:=6148914691236517205);have h2:=Nat.and_le_right (n:=x) (m:=6148914691236517205);have h3:=Qja x 1;refine⟨?_,by unfold oh1;omega⟩;unfold og1 oh1;rw[show (1:Int)=((1:Nat):Int) from rfl,Qg8 _ _ (by omega),show (6148914691236517205:Int)=((6148914691236517205:Nat):Int) from rfl,QhJ (by omega) (by omega),QhJ h (by omega),uadd (by omega)]
def og2_is {x:Nat} (h:x<2 ^ 64):og2 (x:Int)=(oh2 x:Int)/\oh2 x<2 ^ 63:=by have h1:=Nat.and_le_right (n:=x>>>2) (m:=3689348814741910323);have h2:=Nat.and_le_right (n:=x) (m:=3689348814741910323);have h3:=Qja x 2;refine⟨?_,by unfold oh2;omega⟩;unfold og2 oh2;rw[show (2:Int)=((2:Nat):Int) from rfl,Qg8 _ _ (by omega),show (3689348814741910323:Int)=((3689348814741910323:Nat):Int) from rfl,QhJ (by omega) (by omega),QhJ h (by omega),uadd (by omega)]
def og3_is {x:Nat} (h:x<2 ^ 63):og3 (x:Int)=(oh3 x:Int)/\oh3 x<2 ^ 60:=by have h3:=Qja x 4;refine⟨?_,by unfold oh3;have h1:=Nat.and_le_right (n:=(x>>>4)+x) (m:=1085102592571150095);omega⟩;unfold og3 oh3;rw[show (4:Int)=((4:Nat):Int) from rfl,Qg8 _ _ (by omega),uadd (by omega),show (1085102592571150095:Int)=((1085102592571150095:Nat):Int) from rfl,QhJ (by omega) (by omega)]
def og4_is {x:Nat} (h:x<2 ^ 60):og4 (x:Int)=(oh4 x:Int)/\oh4 x<2 ^ 61:=by have h3:=Qja x 8;refine⟨?_,by unfold oh4;omega⟩;unfold og4 oh4;rw[show (8:Int)=((8:Nat):Int) from rfl,Qg8 _ _ (by omega),uadd (by omega)]
def og5_is {x:Nat} (h:x<2 ^ 61):og5 (x:Int)=(oh5 x:Int)/\oh5 x<2 ^ 62:=by have h3:=Qja x 16;refine⟨?_,by unfold oh5;omega⟩;unfold og5 oh5;rw[show (16:Int)=((16:Nat):Int) from rfl,Qg8 _ _ (by omega),uadd (by omega)]
def og6_is {x:Nat} (h:x<2 ^ 62):og6 (x:Int)=(oh6 x:Int):=by have h3:=Qja x 32;unfold og6 oh6;rw[show (32:Int)=((32:Nat):Int) from rfl,Qg8 _ _ (by omega),uadd (by omega),w64 (by omega) (by omega)];unfold iand;rw[show (127:Int)=((127:Nat):Int) from rfl];show i64.wrap (((BitVec.ofInt 64 (((x+x>>>32:Nat)):Int)&&& BitVec.ofInt 64 ((127:Nat):Int)).toNat:Nat):Int)=_;rw[BitVec.toNat_and,Qn3 (by omega),Qn3 (by omega)];have:=Nat.and_le_right (n:=x+x>>>32) (m:=127);exact w64 (by omega) (by omega)
def QsY {x:Nat} (h:x<2 ^ 64):Qcg (x:Int)=some ((ones x:Nat):Int):=by unfold Qcg;rw[QtY];obtain⟨e1,b1⟩:=og1_is h;obtain⟨e2,b2⟩:=og2_is b1;obtain⟨e3,b3⟩:=og3_is b2;obtain⟨e4,b4⟩:=og4_is b3;obtain⟨e5,b5⟩:=og5_is b4;rw[e1,e2,e3,e4,e5,og6_is b5];rfl
def Qmm:Nat->Nat->Bool
 | 0,m=>ones m==ones (m / 2)+m % 2
 | f+1,m=>Qmm f (2 * m)&&Qmm f (2 * m+1)
def QvU:Qmm 16 0=true:=by decide+kernel
def Qm0:∀f m k,Qmm f m=true->m * 2 ^ f<=k->k<(m+1) * 2 ^ f->ones k=ones (k / 2)+k % 2
 | 0,m,k,h,h0,h1=>by
  have:k=m:=by omega
  subst this;simpa[Qmm] using h
 | f+1,m,k,h,h0,h1=>by
  unfold Qmm at h;rw[Zi] at h;rw[Nat.pow_succ] at h0 h1;have e1:m * (2 ^ f * 2)=2 * m * 2 ^ f:=by rw[Nat.mul_comm (2 ^ f) 2,<-Nat.mul_assoc,Nat.mul_comm m 2]
  have e2:(m+1) * (2 ^ f * 2)=(2 * m+2) * 2 ^ f:=by rw[Nat.mul_comm (2 ^ f) 2,<-Nat.mul_assoc];congr 1;omega
  rw[e1] at h0;rw[e2] at h1;by_cases hk:k<(2 * m+1) * 2 ^ f
  ·exact Qm0 f (2 * m) k h.1 h0 hk
  ·exact Qm0 f (2 * m+1) k h.2 (by omega) h1
def QvV {m:Nat} (h:m<2 ^ 16):ones m=ones (m / 2)+m % 2:=Qm0 16 0 m QvU (by omega) (by omega)
def setL (f m:Nat):List Nat:=(range f).filter λi=>m.testBit i
def Qgn {f m i:Nat}:i∈setL f m↔i<f/\m.testBit i=true:=by unfold setL;rw[Yj,ZD]
def QeD:∀(f m:Nat),f<=16->m<2 ^ f->(setL f m).length=ones m
 | 0,m,_,h=>by
  have:m=0:=by omega
  subst this
  decide
 | f+1,m,hf,h=>by
  have h16:m<2 ^ 16:=ZK h (Nat.pow_le_pow_right (by omega) hf);rw[QvV h16];rw[Nat.pow_succ] at h;have ih:=QeD f (m / 2) (by omega) (by omega);unfold setL at ih ⊢;rw[range_succ_eq_map,filter_cons,filter_map,<-ih];have e:((λi=>m.testBit i) ∘ Nat.succ)=λi=>(m / 2).testBit i:=by
   funext i
   exact Nat.testBit_succ m i
  rw[e,Nat.testBit_zero];by_cases hb:m % 2=1
  ·rw[Zc (by simpa using hb),Zj,Zv,hb]
  ·rw[Zd (by simpa using hb),Zv];omega
def QdJ (n:Nat):List Nat:=(range (n+1)).flatMap λk=>(range (2 ^ n)).filter λm=>ones m==k
def Qfc {n m:Nat} (hn:n<=16):m∈QdJ n↔m<2 ^ n:=by
 unfold QdJ;simp only[ZM,Yj,ZD,ZW];constructor
 ·rintro ⟨k,_,h,_⟩;exact h
 ·intro h;refine⟨ones m,?_,h,rfl⟩;rw[<-QeD n m hn h];have:=length_filter_le (λi=>m.testBit i) (range n);rw[ZL] at this;unfold setL;omega
def Qpl {α:Type} (R:α->α->Prop) (F:Nat->List α):∀n,(∀i,i<n->(F i).Pairwise R)->(∀i j,i<j->j<n->∀a∈F i,∀b∈F j,R a b)->((range n).flatMap F).Pairwise R
 | 0,_,_=>by simp
 | n+1,h1,h2=>by rw[ZX,ZF,Yr,pairwise_append];refine⟨Qpl R F n (λi hi=>h1 i (by omega)) (λi j hij hj=>h2 i j hij (by omega)),h1 n (by omega),λa ha b hb=>?_⟩;obtain⟨i,hi,ha⟩:=ZM.1 ha;exact h2 i n (ZD.1 hi) (by omega) a ha b hb
def Qq4 (n:Nat):(QdJ n).Pairwise λa b=>ones a<=ones b:=by
 refine Qpl _ _ _ (λi _=>?_) (λi j hij _ a ha b hb=>?_)
 ·refine Pairwise.imp_of_mem (R:=λ_ _=>True) (λ{a b} ha hb _=>?_) (pairwise_of_forall (λ_ _=>trivial));have h1:=(Yj.1 ha).2;have h2:=(Yj.1 hb).2;simp only[ZW] at h1 h2;omega
 ·have h1:=(Yj.1 ha).2;have h2:=(Yj.1 hb).2;simp only[ZW] at h1 h2;omega
section
variable {S:Type}
def goS (Y:S->Int->Option (S⊕S)):List Nat->S->Option (S⊕S)
 | [],s=>some (.inl s)
 | m::l,s=>(Y s (m:Int)).bind λr=>match r with | .inl s'=>goS Y l s' | .inr s'=>some (.inr s')
def QhK (Y:S->Int->Option (S⊕S)) (m:Nat) (l:List Nat) (s:S):goS Y (m::l) s=(Y s (m:Int)).bind λr=>match r with | .inl s'=>goS Y l s' | .inr s'=>some (.inr s'):=rfl
def QsZ (Y:S->Int->Option (S⊕S)):∀(a b:List Nat) (s:S),goS Y (a++b) s=(goS Y a s).bind λr=>match r with | .inl s'=>goS Y b s' | .inr s'=>some (.inr s')
 | [],b,s=>rfl
 | m::a,b,s=>by
  rw[Yw,QhK,QhK]
  cases h:Y s (m:Int) with
  | none=>rfl
  | some r=>
   simp only[Za]
   cases r with
   | inl s'=>exact QsZ Y a b s'
   | inr s'=>rfl
def QlK {ρ:Type} {Y:S->Int->Option (S⊕S)} (w:Int->Int) (n:Nat) (hw:∀k,k<n->w ((k:Int)+1)=((k+1:Nat):Int)) (F:Nat->List Nat) (o:S⊕S->ρ) (i:S->ρ) {body:Int×S->Option ((Int×S)⊕ρ)}
  (hb:∀k,k<n->∀s,body ((k:Int),s)=(goS Y (F k) s).bind λr=>match r with | .inl s'=>some (.inl (w ((k:Int)+1),s')) | .inr s'=>some (.inr (o (.inr s')))) (he:∀s,body ((n:Int),s)=some (.inr (o (.inl s)))) (s:S):
  Qm body ((0:Int),s)=(goS Y ((range n).flatMap F) s).map o:=by
 have key:∀m k s,k+m=n->Qm body ((k:Int),s)=(goS Y ((range' k m).flatMap F) s).map o:=by
  intro m
  induction m with
  | zero=>
   intro k s hk;have:k=n:=by omega
   subst this;rw[Qac,he];rfl
  | succ m ih=>
   intro k s hk;rw[Qac,hb k (by omega),range'_succ,flatMap_cons,QsZ]
   cases h:goS Y (F k) s with
   | none=>rfl
   | some r=>
    simp only[Za]
    cases r with
    | inr s'=>rfl
    | inl s'=>dsimp only;rw[hw k (by omega)];exact ih (k+1) s' (by omega)
 have:=key n 0 s (by omega);rw[range_eq_range'];exact this
def QkJ (Y:S->Int->Option (S⊕S)) (p:Nat->Bool):∀(l:List Nat) (s:S),goS Y (l.filter p) s=goS (λs m=>if p m.toNat=true then Y s m else some (.inl s)) l s
 | [],s=>rfl
 | m::l,s=>by
  rw[filter_cons,QhK,Zq]
  cases hp:p m with
  | true=>
   rw[Zc rfl,Zc rfl,QhK];congr 1
   funext r
   cases r with
   | inl s'=>exact QkJ Y p l s'
   | inr s'=>rfl
  | false=>rw[Zd (by simp),Zd (by simp)];simp only[Za];exact QkJ Y p l s
def QBI (Y:S->Int->Option (S⊕S)):∀(l:List Nat) (s:S),goS Y (l.flatMap λm=>[m]) s=goS Y l s:=λl s=>by rw[flatMap_singleton']
def Qs0 {Y:S->Int->Option (S⊕S)} {n:Nat} (hn:n<=16) (s:S):QeX Y s (n:Int)=goS Y (QdJ n) s:=by
 have hp:2 ^ n<=2 ^ 16:=Nat.pow_le_pow_right (by omega) hn;have hsh:ishl .u64 (1:Int) (n:Int)=((2 ^ n:Nat):Int):=by
  have e:(2:Int) ^ n=((2 ^ n:Nat):Int):=by push_cast;rfl
  unfold ishl;rw[Zq,show u64.bits=64 from rfl,Nat.min_eq_left (by omega),Int.one_mul,e];exact u64w (Int.natCast_nonneg _) (by omega)
 unfold QeX;rw[w64 (by omega) (by omega),hsh];refine (QlK (Y:=Y) i64.wrap (n+1) (λk hk=>Qw hk (by omega)) (λk=>(range (2 ^ n)).filter λm=>ones m==k) (λr=>r) (λs=>.inl s) (λk hk s=>?_) (λs=>by rw[Zd (by simp)]) s).trans ?_
 ·rw[Zc (decide_eq_true (by omega))];rw[show nn (n:Int)=some () by unfold nn;rw[Zc (by omega)]];simp only[Za];rw[QkJ,<-QBI _ (range (2 ^ n))];rw[QlK (Y:=λs m=>if (ones m.toNat==k)=true then Y s m else some (.inl s)) u64.wrap (2 ^ n) (λk hk=>by rw[u64w (by omega) (by omega)];omega) (λm=>[m]) (λr=>r) (λs=>.inl s) (λm hm s=>?_) (λs=>by rw[Zd (by simp)]) s]
  ·cases goS (λs m=>if (ones m.toNat==k)=true then Y s m else some (.inl s)) ((range (2 ^ n)).flatMap λm=>[m]) s with
   | none=>rfl
   | some r=>cases r<;>rfl
  ·rw[Zc (decide_eq_true (ZQ.2 hm)),QsY (by omega)];simp only[Za,goS,Zq];have e:(((ones m:Nat):Int)==(k:Int))=(ones m==k):=by
    rw[ZO];simp;omega
   rw[e]
   cases (if (ones m==k)=true then Y s (m:Int) else some (.inl s)) with
   | none=>rfl
   | some r=>cases r<;>rfl
 ·unfold QdJ;cases goS Y ((range (n+1)).flatMap λk=>(range (2 ^ n)).filter λm=>ones m==k) s<;>rfl
end
def Qn4 {m k:Nat} (hm:m<2 ^ 64) (hk:k<=64):(iand .u64 (ishr .u64 (m:Int) (k:Int)) (1:Int)==(1:Int))=m.testBit k:=by have:=Qja m k;rw[Qg8 _ _ hk,show (1:Int)=((1:Nat):Int) from rfl,QhJ (by omega) (by omega)];rw[ZO];unfold Nat.testBit;rw[Nat.and_comm 1];have h2:m>>>k&&& 1=m>>>k % 2:=Nat.and_one_is_mod _;rw[h2];simp only[ZW,bne_iff_ne,ne_eq];omega
def QvW {p n:Int} (hp:I64 p):Ok (QaF p n) (λr=>0<=r/\(1<=n->r<n)/\(n<=0->r=0)):=by
 have hp':=hp;unfold I64 at hp';have key:∀q:Int,0<=q->Ok (if decide (n<1)=true then some 0 else (nz n).bind λ_=>some (Int.tmod q n)) (λr=>0<=r/\(1<=n->r<n)/\(n<=0->r=0)):=λq hq=>by
  refine Ok.ite (λh=>?_) (λh=>?_)
  ·have:n<1:=ZS h;exact Ok.mk ⟨ZR _,λh=>by omega,λ_=>rfl⟩
  ·have:¬n<1:=Yk h;rw[QnZ (by omega)];exact Ok.mk ⟨Int.tmod_nonneg _ hq,λ_=>Int.tmod_lt_of_pos _ (by omega),λh=>by omega⟩
 unfold QaF;refine Ok.bind (P:=λq=>0<=q) (Ok.ite (λh=>?_) (λh=>?_)) (λq hq=>key q hq)
 ·have:p<0:=ZS h;refine Ok.mk ?_;have e1:i64.wrap (p+1)=p+1:=w64 (by omega) (by omega);rw[e1,w64 (by omega) (by omega)];omega
 ·have:¬p<0:=Yk h;exact Ok.mk (by omega)
section
variable {β:Type} {Q:β->Prop}
def Ok.around {p n:Int} {f:Int->Option β} (hp:I64 p) (hn:1<=n) (k:∀r,0<=r->r<n->Ok (f r) Q):Ok ((QaF p n).bind f) Q:=(QvW hp).bind λr h=>k r h.1 (h.2.1 hn)
def MOk (m:QE):Prop:=∀x∈m.L,I64 x
def Qj7 {m:QE} {n:Int} (hm:MOk m) (hn:1<=n):Ok (QF m n) (λr=>0<=r.1/\r.1<n/\MOk r.2):=by unfold QF Qcd;refine Ok.bind (P:=λr=>0<=r/\r<n) (Ok.ite (λh=>Ok.mk ⟨ZR _,by omega⟩) (λh=>?_)) (λr hr=>Ok.mk ⟨hr.1,hr.2,hm⟩);simp only[Bool.or_eq_false_iff,ZJ] at h;refine Ok.idx (by omega) (by omega) λv hv _=>?_;exact Ok.around (hm v hv) hn λr h0 h1=>Ok.mk ⟨h0,h1⟩
def Ok.take {m:QE} {n:Int} {f:Int×QE->Option β} (hm:MOk m) (hn:1<=n) (k:∀r m',0<=r->r<n->MOk m'->Ok (f (r,m')) Q):Ok ((QF m n).bind f) Q:=(Qj7 hm hn).bind λr h=>k r.1 r.2 h.1 h.2.1 h.2.2
end
def SN (s:Str):Prop:=s.length<=20/\s.head?≠some 122
def FN (f:Qd):Prop:=SN f.Xj/\SN f.Of/\SN f.Up
def FOk (f:Qd):Prop:=f.Words.length<=6/\f.Xf.length<=6/\FN f
def KOk (n:Nat) (k:Qi):Prop:=k.Xb.length<=n/\(∀f∈k.Xb,FOk f)/\SN k.Xj
def Qn5 {l:List Qd} {name:Str} (hl:l.length<=1000):Ok (Qen l name) (λr=>-1<=r/\r<l.length):=by
 unfold Qen;refine Ok.bind (P:=λe=>match e with | .inl _=>True | .inr r=>0<=r/\r<l.length) (Ok.loop (λk s=>0<=s/\s+k=l.length) l.length ⟨by omega,by omega⟩ λk s hs=>?_) (λe he=>?_)
 ·refine Ok.ite (λh=>?_) (λh=>Ok.mk trivial);have h':s<l.length:=ZS h;refine Ok.idx hs.1 h' λv _ _=>Ok.ite (λ_=>Ok.mk ⟨hs.1,h'⟩) (λ_=>Ok.mk ?_);rw[w64 (by omega) (by omega)];exact⟨k - 1,by omega,by omega,by omega⟩
 ·rcases e with e | e
  ·exact Ok.mk ⟨by omega,by omega⟩
  ·exact Ok.mk ⟨by omega,he.2⟩
def QvX {k:Qi} (hl:k.Xb.length<=1000):Ok (Qft k) (λr=>-1<=r/\r<k.Xb.length):=by
 unfold Qft;refine Ok.bind (P:=λe=>match e with | .inl _=>True | .inr r=>0<=r/\r<k.Xb.length) (Ok.loop (λn s=>0<=s/\s+n=k.Xb.length) k.Xb.length ⟨by omega,by omega⟩ λn s hs=>?_) (λe he=>?_)
 ·refine Ok.ite (λh=>?_) (λh=>Ok.mk trivial);have h':s<k.Xb.length:=ZS h;refine Ok.idx hs.1 h' λv _ _=>Ok.ite (λ_=>Ok.mk ⟨hs.1,h'⟩) (λ_=>Ok.mk ?_);rw[w64 (by omega) (by omega)];exact⟨n - 1,by omega,by omega,by omega⟩
 ·rcases e with e | e
  ·exact Ok.mk ⟨by omega,by omega⟩
  ·exact Ok.mk ⟨by omega,he.2⟩
def Qq5 {m:QE} (hm:MOk m):Ok (Qcx m) (λr=>r.1.length<=2/\(∀f∈r.1,FOk f)/\MOk r.2):=by
 unfold Qcx;refine Ok.take hm (by decide) λr m1 _ _ h1=>?_;refine Ok.ite (λ_=>?_) (λ_=>?_)
 ·refine Ok.take h1 (by decide) λr2 m2 _ _ h2=>Ok.take h2 (by decide) λr3 m3 _ _ h3=>Ok.mk ⟨by simp,by simp[FOk,FN,SN],h3⟩
 refine Ok.ite (λ_=>?_) (λ_=>?_)
 ·refine Ok.take h1 (by decide) λr2 m2 h20 h21 h2=>?_;have hr2:i64.wrap (1+r2)=1+r2:=w64 (by omega) (by omega);refine Ok.sub (by decide) (by dsimp only;rw[hr2];omega) (by dsimp only;rw[hr2];simp;omega) λw hw _=>?_;dsimp only at hw;rw[hr2] at hw;have hwl:1<=w.length/\w.length<=3:=by omega
  refine Ok.bind (P:=λr=>r.1.length=w.length/\MOk r.2) (Ok.loop (λk s=>0<=s.1/\s.1+k=w.length/\s.2.1.length=s.1/\MOk s.2.2) w.length ⟨ZR _,by simp,by simp,h2⟩ λk s hs=>?_) (λp hp=>?_)
  ·obtain⟨i,ws,m3⟩:=s;obtain⟨e1,e2,e3,e4⟩:=hs;dsimp only at e1 e2 e3 e4;refine Ok.ite (λh=>?_) (λh=>?_)
   ·have h':i<w.length:=ZS h;refine Ok.take e4 (by decide) λr4 m4 _ _ h4=>Ok.rm (by simp;omega) (Ok.mk ?_);dsimp only;rw[w64 (by omega) (by omega)];exact⟨k - 1,by omega,by omega,by omega,by simp;omega,h4⟩
   ·have h':¬i<w.length:=Yk h;exact Ok.mk ⟨by dsimp only;omega,e4⟩
  ·refine Ok.take hp.2 (by omega) λr4 m4 h40 h41 h4=>Ok.take h4 (by decide) λr5 m5 _ _ h5=>?_;refine Ok.setAt h40 (by dsimp only;omega) (Ok.mk ⟨by simp,?_,h5⟩);intro f hf;rw[Zh] at hf;subst hf;exact⟨by dsimp only;omega,by simp only[Yz];omega,by simp[FN,SN]⟩
 refine Ok.ite (λ_=>?_) (λ_=>?_)
 ·refine Ok.take h1 (by decide) λr2 m2 _ _ h2=>Ok.take h2 (by decide) λr3 m3 _ _ h3=>Ok.take h3 (by decide) λr4 m4 _ _ h4=>Ok.take h4 (by decide) λr5 m5 _ _ h5=>Ok.mk ⟨by simp,by simp[FOk,FN,SN],h5⟩
 refine Ok.ite (λ_=>?_) (λ_=>?_)
 ·refine Ok.take h1 (by decide) λr2 m2 _ _ h2=>Ok.take h2 (by decide) λr3 m3 _ _ h3=>Ok.mk ⟨by simp,by simp[FOk,FN,SN],h3⟩
 refine Ok.ite (λ_=>?_) (λ_=>?_)
 ·refine Ok.take h1 (by decide) λr2 m2 _ _ h2=>Ok.take h2 (by decide) λr3 m3 _ _ h3=>Ok.take h3 (by decide) λr4 m4 _ _ h4=>Ok.take h4 (by decide) λr5 m5 _ _ h5=>Ok.mk ⟨by simp,by simp[FOk,FN,SN],h5⟩
 ·exact Ok.mk ⟨by simp,by simp,h1⟩
def GOk (n:Nat) (k:Qi):Prop:=KOk n k/\1<=k.Xj.length/\k.Xj.length<=6
def GOk.Xp {a b:Nat} {k:Qi} (h:GOk a k) (hab:a<=b):GOk b k:=⟨⟨by have:=h.1.1;omega,h.1.2⟩,h.2⟩
def fok {n o u:Str} {k lo hi:Int} (h1:SN n) (h2:SN o) (h3:SN u):FOk ⟨n,o,u,k,lo,hi,[],[]⟩:=⟨by simp,by simp,h1,h2,h3⟩
def Qn6:SN []:=by simp[SN]
def QkK {c:Bool} {a b:QE} (h:c=true->MOk a) (k:MOk b):MOk (bif c==true then a else b):=by
 cases c with
 | true=>exact h rfl
 | false=>exact k
set_option maxHeartbeats 1000000 in
def QBJ {m:QE} {l:List Qi} {N:Nat} (hm:MOk m) (hl:l.length<=2) (hN:N<=20) (hk:∀k∈l,GOk N k):
  Ok (QdA m l) (λr=>GOk 9 r.1/\MOk r.2.1/\r.2.2.length=l.length/\∀k∈r.2.2,GOk (N+1) k):=by
 unfold QdA;refine Ok.take hm (by decide) λr1 m1 a1 b1 h1=>?_;refine Ok.idx a1 (by simpa using b1) λlo _ _=>?_;refine Ok.idx (by omega) (by simp;omega) λname hname _=>?_;have hn:1<=name.length/\name.length<=6:=by simp only[Zp,ZN,Yd] at hname;rcases hname with rfl | rfl | rfl<;>decide
 have hsn:SN name:=by simp only[Zp,ZN,Yd] at hname;rcases hname with rfl | rfl | rfl<;>simp[SN]
 refine Ok.take h1 (by decide) λr2 m2 _ _ h2=>?_;refine Ok.take h2 (by decide) λr3 m3 a3 b3 h3=>?_;refine Ok.idx a3 (by simpa using b3) λid0 _ _=>?_;refine Ok.rm (by simp) ?_;refine Ok.bind (P:=λp:QE×List Qd×List Qi=>MOk p.1/\p.2.1.length<=4/\(∀f∈p.2.1,FOk f)/\p.2.2.length=l.length/\∀k∈p.2.2,GOk (N+1) k)
  (Ok.ite (λhpos=>?_) (λ_=>Ok.mk ⟨h3,by simp,by simp[FOk,FN,SN],rfl,λk h=>(hk k h).Xp (by omega)⟩)) λp hp=>?_
 ·have hpos':(0:Int)<l.length:=ZS hpos;refine Ok.take h3 (by omega) λto m4 a4 b4 h4=>?_;refine Ok.idx a4 b4 λkt hkt ekt=>?_;refine Ok.take h4 (by decide) λr5 m5 a5 b5 h5=>?_;refine Ok.idx a5 (by simpa using b5) λhi _ _=>?_;refine Ok.take h5 (by decide) λr6 m6 _ _ h6=>?_;have skt:=(hk kt hkt).1.2.2;refine Ok.bind (P:=FOk) (Ok.ite (λ_=>Ok.mk (fok (by simp[SN]) skt Qn6)) (λ_=>Ok.mk (fok (by simp[SN]) skt Qn6))) λf hf=>?_;refine Ok.rm (by simp) ?_;refine Ok.idx a4 b4 λkt1 hkt1 _=>?_;refine (QvX (by have:=(hk _ hkt1).1.1;omega)).bind λc hc=>?_;refine Ok.opt (P:=λr:Int×QE=>MOk r.2) (λh=>(Qj7 h6 (by decide)).Xp λr h=>h.2.2) λr7 h7=>?_;have m7:MOk (bif (decide (c>=(0:Int)))==true then r7.2 else m6):=QkK (λh=>h7 (by rw[h];rfl)) h6;refine Ok.bind (P:=λp:List Qd=>p.length<=3/\∀f∈p,FOk f) (Ok.ite (λh=>?_) (λ_=>Ok.mk ⟨by simp,?_⟩)) λfs hfs=>?_
  ·simp only[Zi,Zo] at h;refine Ok.idx a4 b4 λkt2 hkt2 ekt2=>?_;have e:kt2=kt1:=by simp_all
   subst e;refine Ok.idx h.1 hc.2 λg hg _=>Ok.rm (by simp) (Ok.mk ⟨by simp,?_⟩);have sg:=((hk _ hkt1).1.2.1 g hg).2.2.1;intro x hx;simp only[Ye,Yw,Zp,ZN,Yd] at hx;rcases hx with rfl | rfl | rfl
   ·simp[FOk,FN,SN]
   ·exact hf
   ·exact fok (by simp[SN]) sg (by simp[SN])
  ·intro x hx;simp only[Ye,Yw,Zp,ZN,Yd] at hx;rcases hx with rfl | rfl
   ·simp[FOk,FN,SN]
   ·exact hf
  ·refine Ok.idx a4 b4 λkt3 hkt3 ekt3=>?_;refine (Qn5 (by have:=(hk _ hkt3).1.1;omega)).bind λtot htot=>?_;refine Ok.opt (P:=λr:Int×QE=>MOk r.2) (λh=>(Qj7 m7 (by decide)).Xp λr h=>h.2.2) λr8 h8=>?_;have m8:MOk (bif (decide (tot<(0:Int)))==true then r8.2 else (bif (decide (c>=(0:Int)))==true then r7.2 else m6)):=QkK (λh=>h8 (by rw[h];rfl)) m7;refine Ok.bind (P:=λp:QE×List Qd×List Qi=>MOk p.1/\p.2.1.length<=4/\(∀f∈p.2.1,FOk f)/\p.2.2.length=l.length/\∀k∈p.2.2,GOk (N+1) k)
    (Ok.ite (λh=>?_) (λ_=>Ok.mk ⟨m8,by have:=hfs.1;dsimp only;omega,hfs.2,rfl,λk h=>(hk k h).Xp (by omega)⟩)) λp hp=>Ok.mk hp
   refine Ok.take m8 (by decide) λr9 m9 _ _ h9=>Ok.take h9 (by decide) λr10 m10 _ _ h10=>?_;refine Ok.rm (by have:=hfs.1;simp;omega) ?_;refine Ok.idx a4 b4 λkt4 hkt4 ekt4=>?_;have hk4:=hk _ hkt4;have hk41:=hk4.1.1;refine Ok.rm (by simp;omega) (Ok.rm (by simp;omega) ?_);refine Ok.idx a4 b4 λkt5 hkt5 ekt5=>?_;have e:kt5=kt4:=by simp_all
   subst e;refine Ok.setAt a4 b4 (Ok.mk ⟨h10,?_,?_,?_,?_⟩)
   ·have:=hfs.1;simp;omega
   ·intro x hx;rcases Zt.1 hx with hx | hx
    ·exact hfs.2 x hx
    ·rw[Zh] at hx;subst hx;simp[FOk,FN,SN]
   ·simp
   ·intro k hkm;rcases mem_or_eq_of_mem_set hkm with hkm | rfl
    ·exact (hk k hkm).Xp (by omega)
    ·refine⟨⟨?_,?_,hk4.1.2.2⟩,hk4.2⟩
     ·simp;omega
     ·intro x hx;rcases Zt.1 hx with hx | hx
      ·exact hk4.1.2.1 x (by simpa using hx)
      ·rw[Zh] at hx;subst hx;exact fok (by simp[SN]) hsn Qn6
 ·obtain⟨q1,q2,q3,q4,q5⟩:=hp;refine Ok.opt (P:=λr:Int×QE=>MOk r.2) (λh=>(Qj7 q1 (by decide)).Xp λr h=>h.2.2) λr11 h11=>?_;have m11:MOk (bif (decide ((l.length:Int)>(1:Int)))==true then r11.2 else p.1):=QkK (λh=>h11 (by rw[h];rfl)) q1;refine Ok.bind (P:=λp:List Qd=>p.length<=5/\∀f∈p,FOk f) (Ok.ite (λh=>?_) (λ_=>Ok.mk ⟨by omega,q3⟩)) λfs hfs=>?_
  ·simp only[Zi,Zo] at h;refine Ok.idx (by decide) (by omega) λk0 hk0 _=>Ok.rm (by simp;omega) (Ok.mk ⟨by simp;omega,?_⟩);intro x hx;rcases Zt.1 hx with hx | hx
   ·exact q3 x hx
   ·rw[Zh] at hx;subst hx;exact fok (by simp[SN]) (q5 k0 hk0).1.2.2 Qn6
  ·refine (Qq5 m11).bind λr12 h12=>?_;obtain⟨c1,c2,c3⟩:=h12;obtain⟨f1,f2⟩:=hfs;refine Ok.rm (by omega) ?_;refine Ok.take c3 (by decide) λr13 m13 _ _ h13=>?_;have all7:∀f∈fs++r12.1,FOk f:=λx hx=>(Zt.1 hx).elim (f2 x) (c2 x);have len7:(fs++r12.1).length<=7:=by simp;omega
   refine Ok.bind (P:=λp:QE×List Qd=>MOk p.1/\p.2.length<=9/\∀f∈p.2,FOk f) (Ok.ite (λh=>?_) (λ_=>Ok.mk ⟨h13,by dsimp only;omega,all7⟩)) λp52 hp52=>Ok.mk ⟨⟨⟨hp52.2.1,hp52.2.2,hsn⟩,hn⟩,hp52.1,q4,q5⟩;refine (Qq5 h13).bind λr14 h14=>?_;obtain⟨d1,d2,d3⟩:=h14;refine Ok.opt (P:=λ_=>True) (λh=>?_) λg _=>?_
   ·have h':(r14.1.length:Int)>0:=by simpa using h
    exact (Ok.idx (by decide) (by omega) λv _ _=>Ok.mk trivial:Ok ((idx r14.1 0).bind some) _).Xp (λ_ h=>h) |> λh=>by simpa using h
   refine Ok.opt (P:=λ_=>True) (λh=>(Qn5 (by omega)).Xp λ_ _=>trivial) λg2 _=>?_;refine Ok.bind (P:=λp:List Qd=>p.length<=9/\∀f∈p,FOk f) (Ok.ite (λh=>Ok.rm (by omega) (Ok.mk ⟨by rw[Ze];omega,λx hx=>(Zt.1 hx).elim (all7 x) (d2 x)⟩)) (λ_=>Ok.mk ⟨by omega,all7⟩)) λp64 hp64=>Ok.mk ⟨d3,hp64.1,hp64.2⟩
def RN (r:Qp):Prop:=SN r.Xj/\SN r.Xi/\SN r.A/\SN r.B
def Qq6 {a r:Str} (h1:1<=a.length) (h2:a.length<=10) (h:a.head?≠some 122) (hr:r.length=1):SN (a++r):=by
 refine⟨by rw[Ze];omega,?_⟩
 cases a with
 | nil=>simp at h1
 | cons c a=>simpa using h
def QBK {m:QE} {k:Qi} (hm:MOk m) (hk:GOk 12 k):Ok (QdB m k) (λr=>RN r.1/\MOk r.2.2):=by unfold QdB;obtain⟨⟨k1,k2,ks⟩,k3,k4⟩:=hk;refine (Qn5 (by omega)).bind λa ha=>(Qn5 (by omega)).bind λb hb=>?_;refine Ok.opt (P:=λr:Int×QE=>MOk r.2) (λh=>(Qj7 hm (by decide)).Xp λr h=>h.2.2) λr1 h1=>?_;have m1:MOk (bif (decide (a>=(0:Int)))==true then r1.2 else m):=QkK (λh=>h1 (by rw[h];rfl)) hm;have nm:∀{β:Type} {Q:β->Prop} {f:Str->Option β},(∀r:Str,r.length=1->Ok (f r) Q)->Ok ((sub k.Xj 0 1).bind f) Q:=λh=>Ok.sub (by decide) (by decide) (by omega) λr hr _=>h r (by simpa using hr);refine Ok.ite (λ_=>nm λr hr=>Ok.cat (by simp;omega) (Ok.take m1 (by decide) λ_ m2 _ _ h2=>Ok.mk ⟨⟨Qq6 (by simp) (by simp) (by simp) hr,ks,by simp[SN],by simp[SN]⟩,h2⟩)) (λ_=>?_);refine Ok.ite (λ_=>Ok.mk ⟨by simp[RN,SN],m1⟩) (λh=>?_);have hb0:¬b<0:=Yk h;refine Ok.idx (by omega) hb.2 λf _ _=>Ok.take m1 (by decide) λr2 m2 _ _ h2=>?_;refine Ok.ite (λ_=>nm λr hr=>Ok.cat (by simp;omega) (Ok.take h2 (by decide) λ_ m2 _ _ h2=>Ok.mk ⟨⟨Qq6 (by simp) (by simp) (by simp) hr,ks,by simp[SN],by simp[SN]⟩,h2⟩)) (λ_=>nm λr hr=>Ok.cat (by simp;omega) (Ok.take h2 (by decide) λ_ m2 _ _ h2=>Ok.mk ⟨⟨Qq6 (by simp) (by simp) (by simp) hr,ks,by simp[SN],by simp[SN]⟩,h2⟩))
def SOk (n:Nat) (x:Qb):Prop:=x.Xa.length<=3/\(∀k∈x.Xa,KOk 14 k)/\x.Xd.length<=1/\(∀m∈x.Xd,m.Xe.length<=6/\m.Xg.length<=8/\SN m.Xj)/\x.Xc.length<=n/\∀r∈x.Xc,RN r
def QvY {l:List Int} (hl:∀x∈l,I64 x):Ok (Qfu l) (SOk 2):=by
 unfold Qfu;refine Ok.sub (by decide) (by unfold imin;split<;>omega) (by unfold imin;split<;>omega) λw _ hw=>?_;have h0:MOk (QE.mk w 0):=λx hx=>hl x (hw x hx);refine Ok.take h0 (by decide) λv m1 _ _ h1=>Ok.take h1 (by decide) λn m2 a2 b2 h2=>?_;have en:i64.wrap (1+n)=1+n:=w64 (by omega) (by omega);refine Ok.bind (P:=λp:List Qi×QE=>p.1.length=1+n/\(∀k∈p.1,GOk 12 k)/\MOk p.2)
  (Ok.loop (λk s=>0<=s.1/\s.1+k=1+n/\s.2.1.length=s.1/\(∀q∈s.2.1,GOk (9+s.1.toNat) q)/\MOk s.2.2) (1+n).toNat ⟨ZR _,by dsimp only;omega,by simp,by simp,h2⟩ λk s hs=>?_) (λp hp=>?_)
 ·obtain⟨i,ks,m3⟩:=s;obtain⟨e1,e2,e3,e4,e5⟩:=hs;dsimp only at e1 e2 e3 e4 e5;refine Ok.ite (λh=>?_) (λh=>?_)
  ·have h':i<1+n:=by have:=ZS h;rwa [en] at this
   refine (QBJ (N:=9+i.toNat) e5 (by omega) (by omega) e4).bind λr hr=>?_;obtain⟨r1,r2,r3,r4⟩:=hr;refine Ok.rm (by simp;omega) (Ok.mk ?_);have ei:i64.wrap (i+1)=i+1:=w64 (by omega) (by omega);refine⟨k - 1,by omega,?_⟩;dsimp only;rw[ei];refine⟨by omega,by omega,by simp;omega,λq hq=>?_,r2⟩;rcases Zt.1 hq with hq | hq
   ·exact (r4 q hq).Xp (by omega)
   ·rw[Zh] at hq;subst hq;exact r1.Xp (by omega)
  ·have h':¬i<1+n:=by have:=Yk h;rwa [en] at this
   refine Ok.mk ⟨by dsimp only;omega,λq hq=>(e4 q hq).Xp (by omega),e5⟩
 obtain⟨p1,p2,p3⟩:=hp;refine Ok.take p3 (by decide) λt m4 a4 b4 h4=>?_;have et:i64.wrap (2+t)=2+t:=w64 (by omega) (by omega);refine Ok.sub (by decide) (by dsimp only;rw[et];omega) (by dsimp only;rw[et];simp;omega) λst hst _=>?_;dsimp only at hst;rw[et] at hst;have hsl:2<=st.length/\st.length<=4:=by omega
 refine Ok.bind (P:=λp:List QR=>p.length<=3) (Ok.loop (λk s=>0<=s.1/\s.1+1+k=st.length/\s.2.length=s.1) (st.length - 1) ⟨ZR _,by dsimp only;omega,by simp⟩ λk s hs=>?_) (λmv hmv=>?_)
 ·obtain⟨i,ms⟩:=s;obtain⟨e1,e2,e3⟩:=hs;dsimp only at e1 e2 e3;have ei:i64.wrap (i+1)=i+1:=w64 (by omega) (by omega);refine Ok.ite (λh=>?_) (λh=>?_)
  ·have h':i+1<st.length:=by have:=ZS h;rwa [ei] at this
   refine Ok.rm (by simp;omega) (Ok.mk ⟨k - 1,by omega,?_⟩);dsimp only;rw[ei];exact⟨by omega,by omega,by simp;omega⟩
  ·have h':¬i+1<st.length:=by have:=Yk h;rwa [ei] at this
   exact Ok.mk (by dsimp only;omega)
 refine Ok.take h4 (by decide) λr5 m5 _ _ h5=>?_;refine Ok.bind (P:=λp:List QR=>p.length<=4) (Ok.ite (λ_=>Ok.rm (by simp;omega) (Ok.mk (by simp;omega))) (λ_=>Ok.mk (by omega))) λmv2 hmv2=>?_;refine Ok.take h5 (by decide) λr6 m6 _ _ h6=>?_;refine Ok.bind (P:=λp:List QR=>p.length<=5) (Ok.ite (λ_=>Ok.rm (by simp;omega) (Ok.mk (by simp;omega))) (λ_=>Ok.mk (by omega))) λmv3 hmv3=>?_;refine Ok.rm (by simp) ?_;refine Ok.bind (P:=λp:List Qp=>p.length<=2/\∀r∈p,RN r) (Ok.loop (λk s=>0<=s.1/\s.1+k=1+n/\(s.2.1.length<=2/\∀r∈s.2.1,RN r)/\MOk s.2.2) (1+n).toNat ⟨ZR _,by dsimp only;omega,by simp,h6⟩ λk s hs=>?_) (λrs hrs=>?_)
 ·obtain⟨i,rs,m7⟩:=s;obtain⟨e1,e2,e3,e4⟩:=hs;dsimp only at e1 e2 e3 e4;refine Ok.ite (λh=>?_) (λh=>Ok.mk e3);simp only[Zi,Zo,en] at h;refine Ok.idx e1 (by omega) λq hq _=>(QBK e4 (p2 q hq)).bind λr hr=>?_;refine Ok.bind (P:=λp:List Qp=>p.length<=2/\∀r∈p,RN r) (Ok.ite (λ_=>Ok.rm (by simp;omega) (Ok.mk ⟨by simp;omega,λy hy=>(Zt.1 hy).elim (e3.2 y) λhy=>by rw[Zh] at hy;subst hy;exact hr.1⟩)) (λ_=>Ok.mk e3)) λrs2 hrs2=>Ok.mk ⟨k - 1,by omega,?_⟩;dsimp only;rw[w64 (n:=i+1) (by omega) (by omega)];exact⟨by omega,by omega,hrs2,hr.2⟩
 ·refine Ok.mk ⟨by dsimp only;omega,λq hq=>⟨by have:=(p2 q hq).1.1;omega,(p2 q hq).1.2⟩,by simp,?_,hrs⟩;intro q hq;simp only[Ye,Zh] at hq;subst hq;exact⟨by dsimp only;omega,by dsimp only;omega,by simp[SN]⟩
def Ok.same {β:Type} {x:Option β} {Q:β->Prop} (h:Ok x Q):Ok (x.bind λp=>some p) Q:=h.bind λ_ hr=>Ok.mk hr
def QgB {α:Type} {P:α->Prop} {l:List α} {i:Nat} {x:α} (h:∀y∈l,P y) (hx:P x):∀y∈l.set i x,P y:=λy hy=>(mem_or_eq_of_mem_set hy).elim (h y) λe=>e▸hx
def QBL {n:Nat} {x:Qb} {a h b:Int} (hx:SOk n x) (hn:n<=20) (ha:I64 a) (hh:I64 h) (hb:I64 b):Ok (QgN x a h b) (SOk (n+1)):=by
 obtain⟨x1,x2,x3,x4,x5,x6⟩:=hx;unfold QgN;simp only[Ye,Zl,Nat.zero_add];refine Ok.rm (by omega) (Ok.rm (by omega) ?_);refine Ok.ite (λ_=>Ok.mk ⟨x1,x2,x3,x4,by dsimp only;omega,x6⟩) (λh0=>?_);have h0':(x.Xa.length:Int)≠0:=by simpa using h0
 refine Ok.around ha (by omega) λi i0 i1=>?_;refine Ok.idx i0 i1 λkd hkd ekd=>?_;have hkd':=x2 kd hkd;have hk1:=hkd'.1;refine Ok.rm (by omega) ?_;refine Ok.around hb (by omega) λi2 i20 i21=>?_;refine Ok.idx i20 i21 λk2 hk2 _=>?_;refine Ok.idx (by decide) (by omega) λk3 hk3 _=>?_;refine Ok.bind (P:=λp:List Str=>(4<=p.length/\p.length<=18)/\∀s∈p,SN s) (Ok.loop (λk s=>0<=s.1/\s.1+k=kd.Xb.length/\s.2.length=4+s.1/\∀n∈s.2,SN n) kd.Xb.length ⟨ZR _,by simp,by simp,?_⟩ λk s hs=>?_) (λnames hnm=>?_)
 ·have s2:=(x2 k2 hk2).2.2;have s3:=(x2 k3 hk3).2.2;intro n hn;simp only[Zp,ZN,Yd] at hn;rcases hn with rfl | rfl | rfl | rfl
  ·simp[SN]
  ·simp[SN]
  ·exact s2
  ·exact s3
 ·obtain⟨j,ns⟩:=s;obtain⟨e1,e2,e3,e4⟩:=hs;dsimp only at e1 e2 e3 e4;refine Ok.ite (λh=>?_) (λh=>Ok.mk ⟨⟨by dsimp only;omega,by dsimp only;omega⟩,e4⟩);have h':j<kd.Xb.length:=ZS h;refine Ok.idx e1 h' λf hf _=>Ok.rm (by simp;omega) (Ok.mk ⟨k - 1,by omega,?_⟩);dsimp only;rw[w64 (n:=j+1) (by omega) (by omega)];exact⟨by omega,by omega,by simp;omega,λn hn=>(Zt.1 hn).elim (e4 n) λhn=>by rw[Zh] at hn;subst hn;exact (hkd'.2.1 f hf).2.2.1⟩
 obtain⟨hnm,hsn⟩:=hnm;refine Ok.around hb (by omega) λc c0 c1=>Ok.idx c0 c1 λname hname _=>?_;have snm:=hsn name hname;refine Ok.around (Qjw _) (by unfold imax;split<;>omega) λj j0 _=>?_;refine Ok.around hh (by decide) λw w0 w1=>?_;refine Ok.bind (P:=λp:List Qd=>p.length<=14/\∀f∈p,FOk f) (Ok.ite (λhc=>?_) (λ_=>Ok.mk ⟨hkd'.1,hkd'.2.1⟩)) λfs hfs=>?_
 ·simp only[Zi,Zo] at hc;refine Ok.same (Ok.ite (λ_=>?_) (λ_=>Ok.same (Ok.ite (λ_=>?_) (λ_=>Ok.same (Ok.ite (λ_=>Ok.same (Ok.ite (λ_=>?_) (λ_=>Ok.mk ⟨hkd'.1,hkd'.2.1⟩))) (λ_=>Ok.same (Ok.ite (λ_=>?_) (λ_=>?_))))))))
  ·exact Ok.idx j0 hc.2 λf hf _=>Ok.setAt j0 hc.2 (Ok.mk ⟨by simpa using hk1,QgB hkd'.2.1 (have h:=hkd'.2.1 f hf;⟨h.1,h.2.1,h.2.2.1,snm,h.2.2.2.2⟩)⟩)
  ·exact Ok.idx j0 hc.2 λf hf _=>Ok.setAt j0 hc.2 (Ok.mk ⟨by simpa using hk1,QgB hkd'.2.1 (have h:=hkd'.2.1 f hf;⟨h.1,h.2.1,h.2.2.1,h.2.2.2.1,snm⟩)⟩)
  ·exact Ok.idx j0 hc.2 λf hf _=>Ok.setAt j0 hc.2 (Ok.mk ⟨by simpa using hk1,QgB hkd'.2.1 (have h:=hkd'.2.1 f hf;⟨h.1,h.2.1,snm,h.2.2.2⟩)⟩)
  ·exact Ok.around hb (by omega) λq q0 q1=>Ok.idx j0 hc.2 λf hf _=>Ok.idx q0 q1 λg hg _=>Ok.setAt j0 hc.2 (Ok.setAt q0 (by simpa using q1) (Ok.mk ⟨by simpa using hk1,QgB (QgB hkd'.2.1 (hkd'.2.1 g hg)) (hkd'.2.1 f hf)⟩))
  ·refine Ok.sub (by decide) j0 (by omega) λu hu hum=>?_;rw[w64 (n:=j+1) (by omega) (by omega)];refine Ok.sub (by omega) (by omega) (by omega) λv hv hvm=>Ok.rm (by omega) (Ok.mk ⟨?_,λf hf=>(Zt.1 hf).elim (λh=>hkd'.2.1 f (hum f h)) (λh=>hkd'.2.1 f (hvm f h))⟩);rw[Ze];omega
 refine Ok.idx i0 i1 λkd2 hkd2 _=>Ok.setAt i0 i1 ?_;have skd2:=(x2 kd2 hkd2).2.2;have all2:∀k∈x.Xa.set i.toNat { kd2 with Xb:=fs },KOk 14 k:=QgB x2 ⟨hfs.1,hfs.2,skd2⟩;generalize hks:x.Xa.set i.toNat { kd2 with Xb:=fs }=ks at all2 ⊢;have lks:ks.length=x.Xa.length:=by rw[<-hks];simp
 refine Ok.bind (P:=λp:List Qi=>p.length=x.Xa.length/\∀k∈p,KOk 14 k) (Ok.ite (λ_=>?_) (λ_=>Ok.mk ⟨lks,all2⟩)) λks2 hks2=>?_
 ·exact Ok.around hb (by omega) λq q0 q1=>Ok.idx q0 q1 λf hf _=>Ok.idx i0 (by omega) λg hg _=>Ok.setAt q0 q1 (Ok.setAt i0 (by simp;omega) (Ok.mk ⟨by simp;omega,QgB (QgB all2 (all2 g hg)) (all2 f hf)⟩))
 refine Ok.bind (P:=λp:List Qp=>(p.length<=n+1/\(w>6->p.length<=n))/\∀r∈p,RN r) (Ok.ite (λh6=>?_) (λ_=>Ok.mk ⟨⟨by omega,λ_=>x5⟩,x6⟩)) λrs hrs=>?_
 ·have h6':w=6:=by simpa using h6
  refine Ok.idx i0 (by omega) λk4 hk4 _=>Ok.around (Qjw _) (by omega) λq q0 q1=>Ok.idx q0 q1 λnm hnm4 _=>Ok.rm (by simp;omega) (Ok.mk ⟨⟨by simp;omega,λh=>by omega⟩,λy hy=>(Zt.1 hy).elim (x6 y) λhy=>by rw[Zh] at hy;subst hy;exact⟨by simp[SN],(hks2.2 k4 hk4).2.2,snm,hsn nm hnm4⟩⟩)
 obtain⟨hrs,hrn⟩:=hrs;refine Ok.bind (P:=λp:List Qp=>p.length<=n+1/\∀r∈p,RN r) (Ok.ite (λhc=>?_) (λ_=>Ok.mk ⟨hrs.1,hrn⟩)) λrs2 hrs2=>Ok.mk ⟨by dsimp only;omega,hks2.2,x3,x4,hrs2⟩;simp only[Zi,Zo] at hc;have hr:=hrs.2 hc.1;refine Ok.around ha (by omega) λq q0 q1=>Ok.same (Ok.ite (λ_=>?_) (λ_=>?_))
 ·exact Ok.idx q0 q1 λr hr2 _=>Ok.setAt q0 q1 (Ok.mk ⟨by simp;omega,QgB hrn (have h:=hrn r hr2;⟨h.1,h.2.1,snm,h.2.2.2⟩)⟩)
 ·exact Ok.idx q0 q1 λr hr2 _=>Ok.rm (by simp;omega) (Ok.mk ⟨by simp;omega,λy hy=>(Zt.1 hy).elim (hrn y) λhy=>by rw[Zh] at hy;subst hy;exact hrn _ hr2⟩)
def FZ (f:Qd):Prop:=f.Words.length<=7/\f.Xf.length<=7/\FN f
def KA (l:List Qi):Prop:=l.length<=3/\∀k∈l,k.Xb.length<=14/\(∀f∈k.Xb,FZ f)/\SN k.Xj
def LA (l:List QC):Prop:=l.length<=1/\∀m∈l,m.Xe.length<=7/\m.Xg.length<=9/\SN m.Xj
def RA (l:List Qp):Prop:=l.length<=4/\∀r∈l,RN r
def Sz (x:Qb):Prop:=KA x.Xa/\LA x.Xd/\RA x.Xc
def FOk.z {f:Qd} (h:FOk f):FZ f:=⟨by have:=h.1;omega,by have:=h.2.1;omega,h.2.2⟩
def SOk.sz {n:Nat} {x:Qb} (h:SOk n x) (hn:n<=4):Sz x:=⟨⟨h.1,λk hk=>⟨(h.2.1 k hk).1,λf hf=>((h.2.1 k hk).2.1 f hf).z,(h.2.1 k hk).2.2⟩⟩,⟨h.2.2.1,λm hm=>⟨by have:=(h.2.2.2.1 m hm).1;omega,by have:=(h.2.2.2.1 m hm).2.1;omega,(h.2.2.2.1 m hm).2.2⟩⟩,Yt h.2.2.2.2.1 hn,h.2.2.2.2.2⟩
def QaR {α:Type} (s:List α) (p:α->Bool):Int:=match s.findIdx? p with | some k=>(k:Int) | none=>-1
def Qc7 {α:Type} (s:List α) (p:α->Bool):-1<=QaR s p/\QaR s p<s.length:=by
 unfold QaR
 cases h:s.findIdx? p with
 | none=>exact⟨by decide,by show (-1:Int)<_;omega⟩
 | some k=>have:=(ZC.1 h).1;exact⟨by show (-1:Int)<=(k:Int);omega,by show (k:Int)<_;omega⟩
def Qcq {α:Type} (s:List α) (p:α->Bool) {body:Int->Option (Int⊕(Unit⊕Int))}
  (hb:∀k (h:k<s.length),body (k:Int)=if p s[k]=true then some (.inr (.inr (k:Int))) else some (.inl ((k+1:Nat):Int))) (he:body (s.length:Int)=some (.inr (.inl ()))):
  Qm body (0:Int)=some (match s.findIdx? p with | some k=>.inr (k:Int) | none=>.inl ()):=by
 obtain⟨q,hq⟩:∃q:Nat->Bool,∀k (h:k<s.length),q k=p s[k]:=⟨λk=>if h:k<s.length then p s[k] else false,λk h=>dif_pos h⟩
 rcases Qhs (ρ:=Unit⊕Int) s.length q (.inl ()) (λk=>.inr (k:Int))
  (λk hk hp=>by rw[hb k hk,Zd (by rw[<-hq k hk,hp];decide)]) (λk hk hp=>by rw[hb k hk,Zc (by rw[<-hq k hk,hp])]) he with⟨k,hk,hp,hj,e⟩ | ⟨hp,e⟩
 ·have:s.findIdx? p=some k:=by
   rw[ZC];refine⟨hk,by rw[<-hq k hk,hp],λj hj'=>?_⟩;have:=hj j hj';rw[hq j (by omega)] at this;simp[this]
  rw[e,this]
 ·have:s.findIdx? p=none:=by
   rw[findIdx?_eq_none_iff];intro x hx;obtain⟨k,hk,rfl⟩:=ZY hx;have:=hp k hk
   rwa [hq k hk] at this
  rw[e,this]
section
variable {p:Qi->Bool} {q:Qd->Bool}
def Qpm {s:List Qi} {f:Qi->Option Bool} (hs:s.length<=1000000) (hf:∀x∈s,f x=some (p x)):QbD s f=some (QaR s p):=by
 unfold QbD;rw[Qcq s p (λk hk=>?_) ?_]
 ·unfold QaR;cases s.findIdx? p<;>rfl
 ·rw[Zd (by simp)]
 ·rw[Zc (by simpa using hk),QI hk];show (f s[k]).bind _=_;rw[hf _ (Zk hk),Qw hk (by omega)];rfl
def Qn7 {s:List Qd} {f:Qd->Option Bool} (hs:s.length<=1000000) (hf:∀x∈s,f x=some (q x)):Qbx s f=some (QaR s q):=by
 unfold Qbx;rw[Qcq s q (λk hk=>?_) ?_]
 ·unfold QaR;cases s.findIdx? q<;>rfl
 ·rw[Zd (by simp)]
 ·rw[Zc (by simpa using hk),QI hk];show (f s[k]).bind _=_;rw[hf _ (Zk hk),Qw hk (by omega)];rfl
end
def QQ (x:Qb) (n:Str):Int:=QaR x.Xa λk=>k.Xj==n
def Q8 (k:Qi) (n:Str):Int:=QaR k.Xb λf=>f.Xj==n
def Qc8 {x:Qb} {n:Str} (hx:x.Xa.length<=1000000):QbU x n=some (QQ x n):=by unfold QbU;rw[Qpm (f:=λx0=>Qgx x0 n) (p:=λk=>k.Xj==n) hx (λk _=>rfl)];rfl
def Qch {k:Qi} {n:Str} (hx:k.Xb.length<=1000000):QbA k n=some (Q8 k n):=by unfold QbA;rw[Qn7 (f:=λx0=>QfX x0 n) (q:=λk=>k.Xj==n) hx (λk _=>rfl)];rfl
def field? (x:Qb) (k j:Int):Option Qd:=if 0<=k/\0<=j then x.Xa[k.toNat]?.bind λq=>q.Xb[j.toNat]? else none
def QcA:Qd:=Qd.mk [] [] [] 0 0 0 [] []
def QbM {x:Qb} {k j:Int} {f:Qd} (h:field? x k j=some f):∃q,0<=k/\0<=j/\idx x.Xa k=some q/\idx q.Xb j=some f/\q∈x.Xa/\k<x.Xa.length/\j<q.Xb.length:=by
 unfold field? at h;split at h
 ·rename_i hk;obtain⟨q,h1,h2⟩:=Option.bind_eq_some_iff.1 h;refine⟨q,hk.1,hk.2,by rw[QgA _ hk.1,h1],by rw[QgA _ hk.2,h2],Zr h1,?_,?_⟩
  ·have:=(Zg.1 h1).1;omega
  ·have:=(Zg.1 h2).1;omega
 ·cases h
def Qgo {x:Qb} {k j:Int} {q:Qi} {f:Qd} (hk:0<=k) (hj:0<=j) (h1:idx x.Xa k=some q) (h2:idx q.Xb j=some f):field? x k j=some f:=by rw[QgA _ hk] at h1;rw[QgA _ hj] at h2;unfold field?;rw[Zc ⟨hk,hj⟩,h1];exact h2
def Qct {α:Type} {l:List α} {i:Int} (h0:0<=i) (h1:i<l.length):∃v,idx l i=some v/\v∈l:=by
 have hlt:i.toNat<l.length:=by omega
 exact⟨l[i.toNat],by rw[QgA l h0,Zb hlt],Zk hlt⟩
def QkL (x:Qb) (k j:Int):Qdc x k j=some (match field? x k j with | some f=>(f,true) | none=>(QcA,false)):=by
 unfold Qdc;by_cases hc:(0<=k/\k<x.Xa.length)/\0<=j
 ·obtain⟨⟨h1,h2⟩,h3⟩:=hc;obtain⟨q,hq,_⟩:=Qct h1 h2;have c:((decide (k<0)||decide (k>=(x.Xa.length:Int)))||decide (j<0))=false:=by simp;omega
  rw[c,hq];show (if (false||decide (j>=(q.Xb.length:Int)))=true then _ else _)=_;by_cases h4:j<q.Xb.length
  ·obtain⟨f,hf,_⟩:=Qct h3 h4;rw[Zd (by simp;omega),Qgo h1 h3 hq hf];show (idx q.Xb j).bind _=_;rw[hf];rfl
  ·rw[Zc (by simp;omega)];have:field? x k j=none:=by
    cases h:field? x k j with
    | none=>rfl
    | some f=>obtain⟨q',_,_,e1,e2,_,_,e3⟩:=QbM h;rw[hq] at e1;cases e1;exact (h4 e3).elim
   rw[this];rfl
 ·have c:((decide (k<0)||decide (k>=(x.Xa.length:Int)))||decide (j<0))=true:=by simp;omega
  rw[c];have:field? x k j=none:=by
   cases h:field? x k j with
   | none=>rfl
   | some f=>obtain⟨q',e1,e2,_,_,_,e3,_⟩:=QbM h;exact (hc ⟨⟨e1,e3⟩,e2⟩).elim
  rw[this];rfl
def Few (x:Qb):Prop:=x.Xa.length<=1000/\∀k∈x.Xa,k.Xb.length<=1000
def Sz.few {x:Qb} (h:Sz x):Few x:=⟨by have:=h.1.1;omega,λk hk=>by have:=(h.1.2 k hk).1;omega⟩
def Qhu (x:Qb) (k:Int) (g:Qd):Int:=if QQ x g.Of<k then QQ x g.Of else -1
def upIx (x:Qb) (k j:Int):Int:=
 match field? x k j with
 | none=>-1
 | some f=>
  if f.Xi=7\/f.Xi=8 then
   match idx x.Xa k with
   | none=>-1
   | some q=>if Q8 q f.Up<j then (match field? x k (Q8 q f.Up) with | some g=>if g.Xi=1 then Qhu x k g else -1 | none=>-1) else -1
  else if f.Xi=1 then Qhu x k f else -1
def Qs1 {x:Qb} {k j:Int} {g:Qd} {self:Qb->Int->Int->Option Int} (hx:Few x) (h:field? x k j=some g) (hg:g.Xi=1):QdN self x k j=some (Qhu x k g):=by
 unfold QdN;rw[QkL,h];simp only[Za,Bool.not_true,hg];rw[Zd (by decide),Zd (by decide),Zd (by decide),Qc8 (by have:=hx.1;omega)];simp only[Za,Qhu];by_cases hl:QQ x g.Of<k
 ·rw[Zc (by simpa using hl),Zc hl]
 ·rw[Zd (by simpa using hl),Zd hl]
def upS_is {x:Qb} {k j:Int} {self:Qb->Int->Int->Option Int} (hx:Few x) (hs:∀u g,field? x k u=some g->g.Xi=1->self x k u=some (Qhu x k g)):QdN self x k j=some (upIx x k j):=by
 cases hf:field? x k j with
 | none=>unfold QdN upIx;rw[QkL,hf];rfl
 | some f=>
  by_cases h1:f.Xi=1
  ·rw[Qs1 hx hf h1];unfold upIx;rw[hf];simp[h1]
  unfold QdN upIx;rw[QkL,hf];simp only[Za,Bool.not_true];rw[Zd (by decide)];by_cases c:f.Xi=7\/f.Xi=8
  ·obtain⟨q,hk,hj,hq,hqf,hqm,_,_⟩:=QbM hf;rw[Zc (by simpa using c),Zc c,hq];simp only[Za];rw[Qch (by have:=hx.2 q hqm;omega)];simp only[Za];rw[QkL];simp only[Za]
   cases hg:field? x k (Q8 q f.Up) with
   | none=>simp
   | some g=>
    simp only;by_cases hu:Q8 q f.Up<j
    ·by_cases hg1:g.Xi=1
     ·rw[Zc (by simp[hu,hg1]),hs _ g hg hg1,Zc hu,Zc hg1];rfl
     ·rw[Zd (by simp[hg1]),Zc hu,Zd hg1]
    ·rw[Zd (by simp[hu]),Zd hu]
  ·rw[Zd (by simpa using c),Zd c,Zc (by simpa using h1),Zd h1]
def Qhv {x:Qb} {k j:Int} (hx:Few x):Qep x k j=some (upIx x k j):=by unfold Qep;exact upS_is hx λu g h hg=>Qs1 hx h hg
def Qpn (p:Nat->Bool) (k:Nat):((range (k+1)).filter p).map Int.ofNat=if p k=true then ((range k).filter p).map Int.ofNat++[(k:Int)] else ((range k).filter p).map Int.ofNat:=by
 rw[ZX,filter_append,ZT];by_cases h:p k=true
 ·rw[Zc h];simp[h]
 ·rw[Zd h];simp[h]
def Qq7 (p:Nat->Bool) (k:Nat):(((range k).filter p).map Int.ofNat).length<=k:=by rw[Zv];have:=length_filter_le p (range k);simpa using this
def Qhw (x:Qb) (o k:Int) (nm:Str) (fs:List Qd) (i:Nat):Bool:=match fs[i]? with | some g=>g.Xi==7&&g.Of==nm&&upIx x o (i:Int)==k | none=>false
def shl (x:Qb) (o k:Int) (nm:Str):List Int:=match idx x.Xa o with | some q=>((range q.Xb.length).filter (Qhw x o k nm q.Xb)).map Int.ofNat | none=>[]
def Qjx (x:Qb) (k:Int) (f:Qd):Int×List Int:=if f.Xi≠6\/QQ x f.Of<=k then (-1,[]) else (QQ x f.Of,shl x (QQ x f.Of) k f.Xj)
def Qid (x:Qb) (n:Str):-1<=QQ x n/\QQ x n<x.Xa.length:=Qc7 _ _
def QvZ {x:Qb} {k:Int} {f:Qd} (hx:Few x) (hk:0<=k):QeW x k f=some (Qjx x k f):=by
 unfold QeW;rw[Qc8 (by have:=hx.1;omega)];simp only[Za];unfold Qjx;by_cases c:f.Xi≠6\/QQ x f.Of<=k
 ·rw[Zc (by simpa using c),Zc c]
 rw[Zd (by simpa using c),Zd c];have c':k<QQ x f.Of:=by
  rcases Int.lt_or_le k (QQ x f.Of) with h | h
  ·exact h
  ·exact (c (.inr h)).elim
 obtain⟨q,hq,hqm⟩:=Qct (l:=x.Xa) (i:=QQ x f.Of) (by omega) (Qid x f.Of).2;have hl:=hx.2 q hqm;rw[hq];simp only[Za];refine Qb8 q.Xb.length (λn=>((n:Int),((range n).filter (Qhw x (QQ x f.Of) k f.Xj q.Xb)).map Int.ofNat)) _ rfl (λn hn=>?_) (Zd (by simp)) ?_
 ·rw[Zc (by simpa using hn),QI hn];simp only[Za];rw[Qhv hx];have e:Qhw x (QQ x f.Of) k f.Xj q.Xb n=(q.Xb[n].Xi==7&&q.Xb[n].Of==f.Xj&&upIx x (QQ x f.Of) (n:Int)==k):=by
   unfold Qhw;rw[Zb hn]
  have hle:=Qq7 (Qhw x (QQ x f.Of) k f.Xj q.Xb) n;rw[Qpn,e,Qw hn (by omega)]
  cases h1:(q.Xb[n].Xi==7&&q.Xb[n].Of==f.Xj) with
  | false=>rfl
  | true=>
   simp only[Sim.opt,Bool.true_and,if_true,beq_self_eq_true,Za]
   cases h2:upIx x (QQ x f.Of) (n:Int)==k with
   | false=>rfl
   | true=>rw[Zc rfl,Zc rfl,QaT (by rw[length_singleton];omega)];rfl
 ·unfold shl;rw[hq]
def Qea {α:Type} (s:List α) (p:α->Bool):decide (QaR s p>=0)=s.any p:=by
 unfold QaR
 cases h:s.findIdx? p with
 | none=>have:=findIdx?_eq_none_iff.1 h;rw[Eq.comm,any_eq_false.2 (λx hx=>by simp[this x hx])];rfl
 | some k=>obtain⟨hk,hp,_⟩:=ZC.1 h;rw[Eq.comm,Yn.2 ⟨_,Zk hk,hp⟩,Eq.comm];exact decide_eq_true (Int.natCast_nonneg k)
def QhL {α:Type} (s:List α) (p:α->Bool):(!s.any λx=>!p x)=s.all p:=by
 induction s with
 | nil=>rfl
 | cons a s ih=>simp only[any_cons,all_cons,Bool.not_or,Bool.not_not,ih]
def Qv0 {s:List QC} {f:QC->Option Bool} {p:QC->Bool} (hs:s.length<=1000000) (hf:∀x∈s,f x=some (p x)):Qcm s f=some (QaR s p):=by
 unfold Qcm;rw[Qcq s p (λk hk=>?_) ?_]
 ·unfold QaR;cases s.findIdx? p<;>rfl
 ·rw[Zd (by simp)]
 ·rw[Zc (by simpa using hk),QI hk];show (f s[k]).bind _=_;rw[hf _ (Zk hk),Qw hk (by omega)];rfl
def Qv1 {s:List Qp} {f:Qp->Option Bool} {p:Qp->Bool} (hs:s.length<=1000000) (hf:∀x∈s,f x=some (p x)):Qcn s f=some (QaR s p):=by
 unfold Qcn;rw[Qcq s p (λk hk=>?_) ?_]
 ·unfold QaR;cases s.findIdx? p<;>rfl
 ·rw[Zd (by simp)]
 ·rw[Zc (by simpa using hk),QI hk];show (f s[k]).bind _=_;rw[hf _ (Zk hk),Qw hk (by omega)];rfl
def Qv2 {s:List Int} {f:Int->Option Bool} {p:Int->Bool} (hs:s.length<=1000000) (hf:∀x∈s,f x=some (p x)):Qcl s f=some (QaR s p):=by
 unfold Qcl;rw[Qcq s p (λk hk=>?_) ?_]
 ·unfold QaR;cases s.findIdx? p<;>rfl
 ·rw[Zd (by simp)]
 ·rw[Zc (by simpa using hk),QI hk];show (f s[k]).bind _=_;rw[hf _ (Zk hk),Qw hk (by omega)];rfl
def Qr8 {s:List Str} {f:Str->Option Bool} {p:Str->Bool} (hs:s.length<=1000000) (hf:∀x∈s,f x=some (p x)):QbS s f=some (QaR s p):=by
 unfold QbS;rw[Qcq s p (λk hk=>?_) ?_]
 ·unfold QaR;cases s.findIdx? p<;>rfl
 ·rw[Zd (by simp)]
 ·rw[Zc (by simpa using hk),QI hk];show (f s[k]).bind _=_;rw[hf _ (Zk hk),Qw hk (by omega)];rfl
def Qr9 {s:List QR} {f:QR->Option Bool} {p:QR->Bool} (hs:s.length<=1000000) (hf:∀x∈s,f x=some (p x)):QbT s f=some (QaR s p):=by
 unfold QbT;rw[Qcq s p (λk hk=>?_) ?_]
 ·unfold QaR;cases s.findIdx? p<;>rfl
 ·rw[Zd (by simp)]
 ·rw[Zc (by simpa using hk),QI hk];show (f s[k]).bind _=_;rw[hf _ (Zk hk),Qw hk (by omega)];rfl
def Qq8 {s:List Qi} {f:Qi->Option Bool} {p:Qi->Bool} (hs:s.length<=1000000) (hf:∀x∈s,f x=some (p x)):QbK s f=some (s.any p):=by unfold QbK;rw[Qpm hs hf,<-Qea];rfl
def QBM {s:List Qi} {f:Qi->Option Bool} {p:Qi->Bool} (hs:s.length<=1000000) (hf:∀x∈s,f x=some (p x)):QdU s f=some (s.all p):=by unfold QdU;rw[Qq8 (p:=λx=>!p x) hs (λx hx=>by show (f x).bind _=_;rw[hf x hx];rfl),<-QhL];rfl
def Qp3 {s:List Qd} {f:Qd->Option Bool} {p:Qd->Bool} (hs:s.length<=1000000) (hf:∀x∈s,f x=some (p x)):Qbz s f=some (s.any p):=by unfold Qbz;rw[Qn7 hs hf,<-Qea];rfl
def Qyc {s:List Qd} {f:Qd->Option Bool} {p:Qd->Bool} (hs:s.length<=1000000) (hf:∀x∈s,f x=some (p x)):QdC s f=some (s.all p):=by unfold QdC;rw[Qp3 (p:=λx=>!p x) hs (λx hx=>by show (f x).bind _=_;rw[hf x hx];rfl),<-QhL];rfl
def Qjb {s:List QC} {f:QC->Option Bool} {p:QC->Bool} (hs:s.length<=1000000) (hf:∀x∈s,f x=some (p x)):Qa1 s f=some (s.any p):=by unfold Qa1;rw[Qv0 hs hf,<-Qea];rfl
def QBN {s:List QC} {f:QC->Option Bool} {p:QC->Bool} (hs:s.length<=1000000) (hf:∀x∈s,f x=some (p x)):QdW s f=some (s.all p):=by unfold QdW;rw[Qjb (p:=λx=>!p x) hs (λx hx=>by show (f x).bind _=_;rw[hf x hx];rfl),<-QhL];rfl
def QlL {s:List Qp} {f:Qp->Option Bool} {p:Qp->Bool} (hs:s.length<=1000000) (hf:∀x∈s,f x=some (p x)):Qbj s f=some (s.any p):=by unfold Qbj;rw[Qv1 hs hf,<-Qea];rfl
def QBO {s:List Qp} {f:Qp->Option Bool} {p:Qp->Bool} (hs:s.length<=1000000) (hf:∀x∈s,f x=some (p x)):QdY s f=some (s.all p):=by unfold QdY;rw[QlL (p:=λx=>!p x) hs (λx hx=>by show (f x).bind _=_;rw[hf x hx];rfl),<-QhL];rfl
def Qq9 {s:List Int} {f:Int->Option Bool} {p:Int->Bool} (hs:s.length<=1000000) (hf:∀x∈s,f x=some (p x)):QbL s f=some (s.any p):=by unfold QbL;rw[Qv2 hs hf,<-Qea];rfl
def QoN {s:List Str} {f:Str->Option Bool} {p:Str->Bool} (hs:s.length<=1000000) (hf:∀x∈s,f x=some (p x)):Qbu s f=some (s.any p):=by unfold Qbu;rw[Qr8 hs hf,<-Qea];rfl
def QlM {s:List Str} {f:Str->Option Bool} {p:Str->Bool} (hs:s.length<=1000000) (hf:∀x∈s,f x=some (p x)):Qcy s f=some (s.all p):=by unfold Qcy;rw[QoN (p:=λx=>!p x) hs (λx hx=>by show (f x).bind _=_;rw[hf x hx];rfl),<-QhL];rfl
def QoO {s:List QR} {f:QR->Option Bool} {p:QR->Bool} (hs:s.length<=1000000) (hf:∀x∈s,f x=some (p x)):Qbv s f=some (s.any p):=by unfold Qbv;rw[Qr9 hs hf,<-Qea];rfl
def Qv3 {s:List QR} {f:QR->Option Bool} {p:QR->Bool} (hs:s.length<=1000000) (hf:∀x∈s,f x=some (p x)):Qdj s f=some (s.all p):=by unfold Qdj;rw[QoO (p:=λx=>!p x) hs (λx hx=>by show (f x).bind _=_;rw[hf x hx];rfl),<-QhL];rfl
def inW (n a b:Int):Bool:=decide (n>=a)&&decide (n<=b)
def Qb5 {n a b:Int} (h:inW n a b=true):a<=n/\n<=b:=by simpa[inW] using h
def QcQ (c:Int):Bool:=inW c 97 122
def QgV (c:Int):Bool:=inW c 48 57
def Qet (lo hi a b:Int):Bool:=(decide (lo>=a)&&decide (lo<=hi))&&decide (hi<=b)
def Q3 (s:Str):Bool:=inW (s.length:Int) 1 12&&(QcQ ((s.headD 0).toNat:Int)&&(Q0 s).all λc=>QcQ c||QgV c)
def Qfd (s:Str):Qas s=some (Q3 s):=by
 unfold Qas Q3
 cases s with
 | nil=>rfl
 | cons c s=>
  show (some (inW ((c::s).length:Int) 1 12)).bind _=_;simp only[Za]
  cases h:inW ((c::s).length:Int) 1 12 with
  | false=>rfl
  | true=>
   have hl:=(Qb5 h).2;rw[show idx (c::s) (0:Int)=some c from rfl];simp only[Sim.opt,Bool.not_true,beq_self_eq_true,if_true,Za];rw[show QdV (c.toNat:Int)=some (QcQ (c.toNat:Int)) from rfl];simp only[Za]
   cases hc:QcQ (c.toNat:Int) with
   | false=>simp[hc]
   | true=>
    rw[Zd (by decide),Qq9 (p:=λc=>!(QcQ c||QgV c)) (by simp only[Q0,Zv];omega) (λx _=>?_)]
    ·simp only[Za];rw[QhL];simp[hc]
    ·show (some (QcQ x)).bind _=_;simp only[Za]
     cases h1:QcQ x with
     | true=>rfl
     | false=>show some (true&&!QgV x)=_;rfl
def Qyd {a b:List Str} (ha:a.length<=1000000):QcK a b=some (decide (a=b)):=by
 unfold QcK;by_cases hl:a.length=b.length
 ·rw[Zd (by simp[hl])];have:Ok ((Qm (λ(s7:Int)=>((if (decide (s7<(a.length:Int)))=true then (idx a s7).bind λt18=>(idx b s7).bind λt22=>(if (t18 !=t22)=true then (some (.inr (.inr false))) else (some (.inl (i64.wrap (s7+(1:Int)))))) else (some (.inr (.inl ())))):Option ((Int)⊕((Unit)⊕(Bool))))) (0:Int)).bind λ(e8:(Unit)⊕(Bool))=>(match e8 with | .inl _=>(some true) | .inr p26=>(some p26))) (λr=>r=decide (a=b)):=by
   refine Ok.bind (P:=λe:Unit⊕Bool=>(match e with | .inl _=>true | .inr p=>p)=decide (a=b)) (Ok.loop (λm s=>0<=s/\s+m=a.length/\a.take s.toNat=b.take s.toNat) a.length ⟨ZR _,by omega,by simp⟩ λm s hs=>?_) λe he=>by cases e<;>exact Ok.mk he
   obtain⟨h1,h2,h3⟩:=hs;obtain⟨k,rfl⟩:=Zy h1;simp only[Zq] at h3;refine Ok.ite (λhk=>?_) (λhk=>?_)
   ·have hk':k<a.length:=by simpa using hk
    rw[QI hk',QI (by omega)];simp only[Za];refine Ok.ite (λhne=>Ok.mk ?_) (λheq=>Ok.mk ⟨m - 1,by omega,?_⟩)
    ·show false=_;rw[Eq.comm,ZJ];rintro rfl;simp at hne
    ·have heq':a[k]=b[k]:=by simpa using heq
     rw[Qw hk' (by omega)];refine⟨by omega,by omega,?_⟩;rw[Zq,Zw hk',Zw (by omega),h3,heq']
   ·have hk':¬k<a.length:=by simpa using hk
    refine Ok.mk ?_;show true=_;rw[ZG (by omega),ZG (by omega)] at h3;simp[h3]
  obtain⟨r,hr,rfl⟩:=this;exact hr
 ·rw[Zc (by simp;omega)];have:a≠b:=λh=>hl (by rw[h]);simp[this]
def eqInt {a b:List Int} (ha:a.length<=1000000):QdD a b=some (decide (a=b)):=by
 unfold QdD;by_cases hl:a.length=b.length
 ·rw[Zd (by simp[hl])];have:Ok ((Qm (λ(s7:Int)=>((if (decide (s7<(a.length:Int)))=true then (idx a s7).bind λt18=>(idx b s7).bind λt22=>(if (t18 !=t22)=true then (some (.inr (.inr false))) else (some (.inl (i64.wrap (s7+(1:Int)))))) else (some (.inr (.inl ())))):Option ((Int)⊕((Unit)⊕(Bool))))) (0:Int)).bind λ(e8:(Unit)⊕(Bool))=>(match e8 with | .inl _=>(some true) | .inr p26=>(some p26))) (λr=>r=decide (a=b)):=by
   refine Ok.bind (P:=λe:Unit⊕Bool=>(match e with | .inl _=>true | .inr p=>p)=decide (a=b)) (Ok.loop (λm s=>0<=s/\s+m=a.length/\a.take s.toNat=b.take s.toNat) a.length ⟨ZR _,by omega,by simp⟩ λm s hs=>?_) λe he=>by cases e<;>exact Ok.mk he
   obtain⟨h1,h2,h3⟩:=hs;obtain⟨k,rfl⟩:=Zy h1;simp only[Zq] at h3;refine Ok.ite (λhk=>?_) (λhk=>?_)
   ·have hk':k<a.length:=by simpa using hk
    rw[QI hk',QI (by omega)];simp only[Za];refine Ok.ite (λhne=>Ok.mk ?_) (λheq=>Ok.mk ⟨m - 1,by omega,?_⟩)
    ·show false=_;rw[Eq.comm,ZJ];rintro rfl;simp at hne
    ·have heq':a[k]=b[k]:=by simpa using heq
     rw[Qw hk' (by omega)];refine⟨by omega,by omega,?_⟩;rw[Zq,Zw hk',Zw (by omega),h3,heq']
   ·have hk':¬k<a.length:=by simpa using hk
    refine Ok.mk ?_;show true=_;rw[ZG (by omega),ZG (by omega)] at h3;simp[h3]
  obtain⟨r,hr,rfl⟩:=this;exact hr
 ·rw[Zc (by simp;omega)];have:a≠b:=λh=>hl (by rw[h]);simp[this]
def Qv4 (l:List Int) {k:Nat} (h:k<l.length):(l.take (k+1)).sum=(l.take k).sum+l[k]:=by rw[Zw h,sum_append];simp
def QiA (ws:List Str) (gs:List Int):Bool:=(gs.all λg=>inW g 0 1048576)&&(((inW (ws.length:Int) 1 12&&((ws.length:Int)==(gs.length:Int)))&&decide (gs.sum>0))&&ws.all Q3)
def Qpo {ws:List Str} {gs:List Int} (hw:ws.length<=1000000) (hg:gs.length<=1000000):Qc1 ws gs=some (QiA ws gs):=by
  have key:Ok (Qc1 ws gs) (λr=>r=QiA ws gs):=by
    unfold Qc1;refine Ok.bind (P:=λe:Int⊕Bool=>match e with | .inl s=>(gs.all λg=>inW g 0 1048576)=true/\s=gs.sum | .inr p=>p=false/\(gs.all λg=>inW g 0 1048576)=false)
      (Ok.loop (λm s=>0<=s.1/\s.1+m=gs.length/\((gs.take s.1.toNat).all λg=>inW g 0 1048576)=true/\s.2=(gs.take s.1.toNat).sum/\0<=s.2/\s.2<=s.1 * 1048576) gs.length ⟨ZR _,by dsimp only;omega,by simp,by simp,by simp,by simp⟩ λm s hs=>?_) λe he=>?_
    · obtain⟨i,t⟩:=s;obtain⟨h1,h2,h3,h4,h5,h6⟩:=hs;dsimp only at h1 h2 h3 h4 h5 h6;obtain⟨k,rfl⟩:=Zy h1;simp only[Zq] at h3 h4;refine Ok.ite (λhk=>?_) (λhk=>?_)
      · have hk':k<gs.length:=by simpa using hk
        dsimp only;rw[QI hk'];simp only[Za];show Ok ((some (inW gs[k] 0 1048576)).bind _) _;simp only[Za];refine Ok.ite (λhn=>Ok.mk ⟨rfl,?_⟩) (λhy=>Ok.mk ⟨m - 1,by omega,?_⟩)
        · rw[all_eq_false];exact⟨_,Zk hk',by simpa using hn⟩
        · have hy':inW gs[k] 0 1048576=true:=by simpa using hy
          have hb:=Qb5 hy';dsimp only;rw[Qw hk' (by omega),w64 (n:=t+gs[k]) (by omega) (by omega)];refine⟨by omega,by omega,?_,?_,by omega,by omega⟩
          · rw[Zq,Zw hk',all_append,h3];simp[hy']
          · rw[Zq,Qv4 gs hk',h4]
      · have hk':¬k<gs.length:=by simpa using hk
        rw[ZG (by omega)] at h3 h4;exact Ok.mk ⟨h3,h4⟩
    · cases e with
      | inr p=>obtain⟨rfl,hp⟩:=he;refine Ok.mk ?_;unfold QiA;rw[hp];rfl
      | inl s=>
        obtain⟨hp,rfl⟩:=he;dsimp only;show Ok ((some (inW (ws.length:Int) 1 12)).bind _) _;simp only[Za];rw[QlM (p:=Q3) hw (λx _=>Qfd x)];unfold QiA;rw[hp,Bool.true_and]
        cases (inW (ws.length:Int) 1 12&&((ws.length:Int)==(gs.length:Int)))&&decide (gs.sum>0) with
        | false=>exact Ok.mk rfl
        | true=>exact Ok.mk rfl
  obtain⟨r,hr,rfl⟩:=key;exact hr
def QgC (f:Qd):Qd:=
  if f.Xi=0 then ⟨f.Xj,[],[],f.Xi,f.Lo,0,[],[]⟩
  else if f.Xi=1\/f.Xi=4\/f.Xi=5 then ⟨f.Xj,f.Of,[],f.Xi,f.Lo,f.Hi,[],[]⟩
  else if f.Xi=2 then ⟨f.Xj,[],[],f.Xi,f.Lo,f.Hi,[],[]⟩
  else if f.Xi=3 then ⟨f.Xj,[],[],f.Xi,0,0,f.Words,f.Xf⟩
  else if f.Xi=6 then ⟨f.Xj,f.Of,[],f.Xi,0,0,[],[]⟩
  else if f.Xi=7 then ⟨f.Xj,f.Of,f.Up,f.Xi,f.Lo,f.Hi,[],[]⟩
  else if f.Xi=8 then ⟨f.Xj,f.Of,f.Up,f.Xi,0,0,[],[]⟩
  else ⟨f.Xj,[],[],f.Xi,0,0,[],[]⟩
def QBP (f:Qd):Qf6 f=some (QgC f):=by
  obtain⟨n,o,u,k,lo,hi,w,g⟩:=f;unfold Qf6 QgC;by_cases h0:k=0
  · subst h0;rfl
  by_cases h1:k=1
  · subst h1;rfl
  by_cases h4:k=4
  · subst h4;rfl
  by_cases h5:k=5
  · subst h5;rfl
  by_cases h2:k=2
  · subst h2;rfl
  by_cases h3:k=3
  · subst h3;rfl
  by_cases h6:k=6
  · subst h6;rfl
  by_cases h7:k=7
  · subst h7;rfl
  by_cases h8:k=8
  · subst h8;rfl
  simp[h0,h1,h2,h3,h4,h5,h6,h7,h8]
def QgD (a b:Qd):Bool:=(((((((a.Xj==b.Xj)&&(a.Of==b.Of))&&(a.Up==b.Up))&&(a.Xi==b.Xi))&&(a.Lo==b.Lo))&&(a.Hi==b.Hi))&&decide (a.Words=b.Words))&&decide (a.Xf=b.Xf)
def Qra {a b:Qd} (h1:a.Words.length<=1000000) (h2:a.Xf.length<=1000000):QdE a b=some (QgD a b):=by
  unfold QdE QgD;rw[Qyd h1,eqInt h2]
  cases ((((((a.Xj==b.Xj)&&(a.Of==b.Of))&&(a.Up==b.Up))&&(a.Xi==b.Xi))&&(a.Lo==b.Lo))&&(a.Hi==b.Hi)) with
  | false=>rfl
  | true=>simp only[Sim.opt,Bool.true_and,beq_self_eq_true,if_true,Za];cases decide (a.Words=b.Words)<;>rfl
def QeJ (f:Qd):Bool:=
  if f.Xi=0 then inW f.Lo (-1048576) 1048576
  else if f.Xi=1 then Q3 f.Of&&Qet f.Lo f.Hi 0 65536
  else if f.Xi=2 then Qet f.Lo f.Hi (-1048576) 1048576
  else if f.Xi=3 then QiA f.Words f.Xf
  else if f.Xi=4 then ((f.Of==[])||Q3 f.Of)&&Qet f.Lo f.Hi (-1048576) 1048576
  else if f.Xi=5 then Q3 f.Of&&Qet f.Lo f.Hi 0 32
  else if f.Xi=6 then Q3 f.Of
  else if f.Xi=7 then (Q3 f.Of&&Q3 f.Up)&&Qet f.Lo f.Hi 0 1048576
  else if f.Xi=8 then Q3 f.Of&&Q3 f.Up
  else false
def QaG (f:Qd):Bool:=(Q3 f.Xj&&QgD f (QgC f))&&QeJ f
def QtZ {f:Qd} (h1:f.Words.length<=1000000) (h2:f.Xf.length<=1000000):Qeo f=some (QaG f):=by
  unfold Qeo QaG;rw[Qfd,QBP];simp only[Za]
  cases Q3 f.Xj with
  | false=>rfl
  | true=>
    simp only[Sim.opt,Bool.not_true,beq_self_eq_true,if_true,Za];rw[Qra h1 h2];simp only[Za]
    cases QgD f (QgC f) with
    | false=>rfl
    | true=>
      simp only[Qfd,Qpo h1 h2,Bool.true_and,Bool.not_true,Bool.or_self];rw[Zd (by decide)];unfold QeJ;by_cases c0:f.Xi=0
      · rw[Zc (by simp[c0]),Zc c0];rfl
      rw[Zd (by simpa using c0),Zd c0];by_cases c1:f.Xi=1
      · rw[Zc (by simp[c1]),Zc c1];cases Q3 f.Of<;>rfl
      rw[Zd (by simpa using c1),Zd c1];by_cases c2:f.Xi=2
      · rw[Zc (by simp[c2]),Zc c2];rfl
      rw[Zd (by simpa using c2),Zd c2];by_cases c3:f.Xi=3
      · rw[Zc (by simp[c3]),Zc c3];rfl
      rw[Zd (by simpa using c3),Zd c3];by_cases c4:f.Xi=4
      · rw[Zc (by simp[c4]),Zc c4];cases (f.Of==[])<;>cases Q3 f.Of<;>rfl
      rw[Zd (by simpa using c4),Zd c4];by_cases c5:f.Xi=5
      · rw[Zc (by simp[c5]),Zc c5];cases Q3 f.Of<;>rfl
      rw[Zd (by simpa using c5),Zd c5];by_cases c6:f.Xi=6
      · rw[Zc (by simp[c6]),Zc c6];rfl
      rw[Zd (by simpa using c6),Zd c6];by_cases c7:f.Xi=7
      · rw[Zc (by simp[c7]),Zc c7];cases Q3 f.Of<;>cases Q3 f.Up<;>rfl
      rw[Zd (by simpa using c7),Zd c7];by_cases c8:f.Xi=8
      · rw[Zc (by simp[c8]),Zc c8];cases Q3 f.Of<;>rfl
      rw[Zd (by simpa using c8),Zd c8]
def Qdq (k:Qi):Bool:=((Q3 k.Xj&&Qet k.Lo k.Hi 0 65536)&&decide ((k.Xb.length:Int)<=10))&&k.Xb.all QaG
def QlN (l:List Qd):Prop:=l.length<=1000000/\∀f∈l,f.Words.length<=1000000/\f.Xf.length<=1000000
def Qv5 {k:Qi} (h:QlN k.Xb):QeS k=some (Qdq k):=by
  unfold QeS Qdq;rw[Qfd,Qyc (p:=QaG) h.1 (λf hf=>QtZ (h.2 f hf).1 (h.2 f hf).2)];simp only[Za]
  cases Q3 k.Xj with
  | false=>rfl
  | true=>
    show (opt true (some (Qet k.Lo k.Hi 0 65536)) default).bind _=_;simp only[Sim.opt,Bool.true_and,if_true,Za]
    cases Qet k.Lo k.Hi 0 65536 with
    | false=>rfl
    | true=>
      cases hd:decide ((k.Xb.length:Int)<=10) with
      | false=>rfl
      | true=>rfl
def QhW (n:Int) (m:QR):Bool:=inW m.a0 0 (n - 1)&&inW m.a1 0 (n - 1)
def Qfn (x:QC):Bool:=(((Q3 x.Xj&&inW (x.Xe.length:Int) 1 12)&&x.Xe.all Q3)&&decide ((x.Xg.length:Int)<=32))&&x.Xg.all (QhW (x.Xe.length:Int))
def Qv6 {x:QC} (h1:x.Xe.length<=1000000) (h2:x.Xg.length<=1000000):QeT x=some (Qfn x):=by
  have hm:∀m∈x.Xg,QdX m (x.Xe.length:Int)=some (QhW (x.Xe.length:Int) m):=λm _=>by unfold QdX QhW;rw[w64 (by omega) (by omega)];show (some (inW m.a0 0 ((x.Xe.length:Int) - 1))).bind _=_;simp only[Za];cases inW m.a0 0 ((x.Xe.length:Int) - 1)<;>rfl
  unfold QeT Qfn;rw[Qfd,QlM (p:=Q3) h1 (λs _=>Qfd s),Qv3 (p:=QhW (x.Xe.length:Int)) h2 hm];simp only[Za]
  cases Q3 x.Xj with
  | false=>rfl
  | true=>
    show (opt true (some (inW (x.Xe.length:Int) 1 12)) default).bind _=_;simp only[Sim.opt,Bool.true_and,if_true,Za]
    cases inW (x.Xe.length:Int) 1 12 with
    | false=>rfl
    | true=>
      simp only[Bool.true_and,beq_self_eq_true,if_true,Za]
      cases x.Xe.all Q3 with
      | false=>rfl
      | true=>cases decide ((x.Xg.length:Int)<=32)<;>rfl
def QdK (r:Qp):Bool:=((((Q3 r.Xj&&Q3 r.Xi)&&((r.A==[])||Q3 r.A))&&((r.B==[])||Q3 r.B))&&(r.A++r.B !=[]))&&inW r.N (-1048576) 1048576
def Qbw {s:Str} (h:Q3 s=true):s.length<=12:=by unfold Q3 at h;simp only[Zi] at h;have:=(Qb5 h.1).2;omega
def Qv7 (r:Qp):QeU r=some (QdK r):=by
  have len:∀s:Str,((s==[])||Q3 s)=true->s.length<=12:=λs h=>by
    rcases Zz _ _ |>.mp h with h | h
    · have:s=[]:=by simpa using h
      subst this;simp
    · exact Qbw h
  unfold QeU QdK;simp only[Qfd];simp only[Za]
  cases Q3 r.Xj with
  | false=>rfl
  | true=>
    simp only[Sim.opt,Bool.true_and,beq_self_eq_true,if_true,Za]
    cases Q3 r.Xi with
    | false=>rfl
    | true=>
      simp only[Bool.true_and,beq_self_eq_true,Bool.true_and];have la:=len r.A;have lb:=len r.B
      cases ha:(r.A==[])<;>cases hna:Q3 r.A<;>cases hb:(r.B==[])<;>cases hnb:Q3 r.B<;>first
        | rfl
        | (rw[ha,hna] at la;rw[hb,hnb] at lb
           have e:cat (r.A.length+r.B.length)=some ():=Zc (by have:=la rfl;have:=lb rfl;omega);simp only[e,Bool.false_or,Bool.or_false,Bool.true_or,Bool.or_true,Bool.and_true,Bool.true_and,Bool.and_self,beq_self_eq_true,if_true,Za];cases (r.A++r.B !=[])<;>rfl)
def Qhx:∀(k u:Nat),u<10 ^ (k+1)->(Lib.decDigits u).length<=k+1
 | 0,u,h=>by rw[Lib.decDigits,dif_pos (by simpa using h)];simp
 | k+1,u,h=>by
  rw[Lib.decDigits];split
  ·simp
  ·have:=Qhx k (u / 10) (by rw[Nat.pow_succ] at h;omega);rw[Ze,length_singleton];omega
def Qb9 {n:Int} (h:I64 n):(Lib.itoa n).length<=20:=by
 unfold I64 at h;unfold Lib.itoa;split
 ·have:=Qhx 18 n.natAbs (by omega);rw[Zj];omega
 ·have:=Qhx 18 n.toNat (by omega);omega
def QBQ {n:Int} (h:I64 n):QnQ n=some (Lib.itoa n):=Zc h
def Qdr:AnyV->Str
 | .int n=>Lib.itoa n
 | .str s=>s
def VOk:AnyV->Prop
 | .int n=>I64 n
 | .str s=>s.length<=100
def QkM {v:AnyV} (h:VOk v):(Qdr v).length<=100:=by
 cases v with
 | int n=>have:=Qb9 h;show (Lib.itoa n).length<=100;omega
 | str s=>exact h
def toks (l:List AnyV):Str:=l.flatMap λv=>32::Qdr v
def Qm1 {l:List AnyV} (h:∀v∈l,VOk v):(toks l).length<=l.length * 101:=by
 induction l with
 | nil=>simp[toks]
 | cons v l ih=>have h1:=ih λu hu=>h u (Zs _ hu);have h2:=QkM (h v Zn);have e:toks (v::l)=(32::Qdr v)++toks l:=rfl;rw[e,Ze,Zj,Zj];omega
def Qeb (w:Str) (l:List AnyV):Str:=w++toks l++[10]
def Qfo {a b:Str} (h:a.length+b.length<=68719476736):Qba a b=some (a++b):=Zc h
def QiT {w:Str} {l:List AnyV} (h1:1<=w.length) (h2:w.length<=10) (hl:l.length<=1000) (hv:∀v∈l,VOk v):QaI w l=some (Qeb w l):=by
 have key:Ok (QaI w l) (λr=>r=Qeb w l):=by
  unfold QaI;rw[Qfo (by simp;omega)];simp only[Za,Ye];refine Ok.bind (P:=λr=>r=w++toks l) (Ok.loop (λm s=>0<=s.1/\s.1+m=l.length/\s.2=w++toks (l.take s.1.toNat)) l.length ⟨ZR _,by dsimp only;omega,by simp[toks]⟩ λm s hs=>?_) λr hr=>?_
  ·obtain⟨i,t⟩:=s;obtain⟨e1,e2,e3⟩:=hs;dsimp only at e1 e2 e3;obtain⟨k,rfl⟩:=Zy e1;rw[Zq] at e3;subst e3;refine Ok.ite (λhk=>?_) (λhk=>?_)
   ·have hk':k<l.length:=by simpa using hk
    have hvk:=hv _ (Zk hk');have hlen:=Qm1 (l:=l.take k) λv hm=>hv v (mem_of_mem_take hm);have htl:=QkM hvk;have hlk:(l.take k).length<=1000:=by rw[Yc];omega
    dsimp only;rw[QI hk'];simp only[Za];have eb:QhV (w++toks (l.take k)) 32=some (w++toks (l.take k)++[32]):=Zc ⟨by decide,by decide,by rw[Ze];omega⟩;rw[eb];simp only[Za];refine Ok.bind (P:=λp=>p=w++toks (l.take k)++[32]++Qdr l[k]) ?_ λp hp=>Ok.mk ⟨m - 1,by omega,?_⟩
    ·cases hk2:l[k] with
     | int n=>rw[hk2] at hvk htl;show Ok (if true=true then _ else _) _;rw[Zc rfl];show Ok ((QnQ n).bind _) _;rw[QBQ hvk];simp only[Za];have hi:=Qb9 hvk;rw[Qfo (by simp only[Ze,length_singleton];omega)];exact Ok.mk rfl
     | str s=>rw[hk2] at hvk htl;show Ok (if false=true then _ else ((if true=true then (Qba (w++toks (l.take k)++[32]) s).bind _ else _)).bind _) _;rw[Zd (by decide),Zc rfl];have hs:s.length<=100:=hvk;rw[Qfo (by simp only[Ze,length_singleton];omega)];exact Ok.mk rfl
    ·subst hp;dsimp only;rw[Qw hk' (by omega)];refine⟨by omega,by omega,?_⟩;rw[Zq,Zw hk'];simp only[toks,ZF,flatMap_cons,flatMap_nil,Yh,ZA,Yw,Ye]
   ·have hk':¬k<l.length:=by simpa using hk
    refine Ok.mk ?_;dsimp only;rw[ZG (by omega)]
  ·subst hr;have hlen:=Qm1 hv;have eb:Qg6 (w++toks l)=some (w++toks l):=Zd λh=>by
    have:=Ya length h;rw[Ze,Zl] at this;omega
   rw[eb];simp only[Za];exact Ok.cat (by rw[Ze,length_singleton];omega) (Ok.mk rfl)
 obtain⟨r,hr,rfl⟩:=key;exact hr
def Qgp {w:Str} {l:List AnyV} (h2:w.length<=10) (hv:∀v∈l,VOk v):(Qeb w l).length<=11+l.length * 101:=by have:=Qm1 hv;unfold Qeb;rw[Ze,Ze,length_singleton];omega
def Qa2 (s:Str):Str:=if s=[] then [45] else s
def Qm2 (s:Str):Qdw s=some (Qa2 s):=by
 unfold Qdw Qgw;have key:∀body:Int->Option (Int⊕(Unit⊕Str)),(body 0=if (s !=[])=true then some (.inr (.inr s)) else some (.inl 1))->body 1=some (.inr (.inr [45]))->
   Qm body 0=some (.inr (Qa2 s)):=λbody h0 h1=>by
  rw[Qac,h0];unfold Qa2;by_cases hs:s=[]
  ·rw[Zd (by simp[hs]),Zc hs];show Qm body 1=_;rw[Qac,h1]
  ·rw[Zc (by simpa using hs),Zd hs]
 rw[key _ rfl rfl];rfl
def QaM (f:Qd):List AnyV:=
 if f.Xi=0 then [.str f.Xj,.int f.Lo]
 else if f.Xi=2 then [.str f.Xj,.int f.Lo,.int f.Hi]
 else if f.Xi=3 then [.str f.Xj,.int (f.Words.length:Int)]++(f.Words.zip f.Xf).flatMap λp=>[.str p.1,.int p.2]
 else if f.Xi=6 then [.str f.Xj,.str f.Of]
 else if f.Xi=7 then [.str f.Xj,.str f.Up,.str f.Of,.int f.Lo,.int f.Hi]
 else if f.Xi=8 then [.str f.Xj,.str f.Up,.str f.Of]
 else [.str f.Xj,.str (Qa2 f.Of),.int f.Lo,.int f.Hi]
def QkN (f:Qd):Str:=QjZ[f.Xi.toNat]?.getD []
def Qeu (f:Qd):Str:=Qeb (QkN f) (QaM f)
def Qe4 {s:Str} (h:Q3 s=true):VOk (.str s):=by have:=Qbw h;show s.length<=100;omega
def QhM {s:Str} (h:((s==[])||Q3 s)=true):VOk (.str (Qa2 s)):=by
 unfold Qa2;by_cases hs:s=[]
 ·rw[Zc hs];show ([45]:Str).length<=100;decide
 ·rw[Zd hs];have:Q3 s=true:=by simpa[hs] using h
  exact Qe4 this
def QbO {n:Int} (h:-100000000<=n/\n<=100000000):VOk (.int n):=by show I64 n;unfold I64;omega
def Qv8 {l:List Str} {g:List Int} (h:l.length=g.length) (k:Nat) (hk:k<l.length):(((l.zip g).take k).flatMap λp=>[AnyV.str p.1,AnyV.int p.2])++[AnyV.str l[k],AnyV.int (g[k]'(by omega))]=((l.zip g).take (k+1)).flatMap λp=>[AnyV.str p.1,AnyV.int p.2]:=by rw[Zw (by rw[length_zip];omega),ZF,getElem_zip];rfl
def Qpp (l:List (Str×Int)):(l.flatMap λp=>[AnyV.str p.1,AnyV.int p.2]).length=2 * l.length:=by
 induction l with
 | nil=>rfl
 | cons a l ih=>rw[flatMap_cons,Ze,ih];simp;omega
structure QoP (f:Qd):Prop where
 kind:0<=f.Xi/\f.Xi<=8
 items:∀v∈QaM f,VOk v
 count:(QaM f).length<=30
 pick:f.Xi=3->f.Words.length=f.Xf.length/\f.Words.length<=12
def QcR {lo hi a b:Int} (h:Qet lo hi a b=true):a<=lo/\lo<=hi/\hi<=b:=by simp only[Qet,Zi,Zo] at h;omega
def Qie {f:Qd} (h:QaG f=true):QoP f:=by
 unfold QaG at h;simp only[Zi] at h;obtain⟨⟨hn,_⟩,hp⟩:=h;have hnv:=Qe4 hn;unfold QeJ at hp;by_cases c0:f.Xi=0
 ·rw[Zc c0] at hp;have e:QaM f=[.str f.Xj,.int f.Lo]:=by unfold QaM;rw[Zc c0]
  refine⟨by omega,?_,by rw[e];simp,λh=>by omega⟩;have:=Qb5 hp;rw[e];simp only[Zp,ZN,Yd,Yi,forall_eq];exact⟨hnv,QbO (by omega)⟩
 rw[Zd c0] at hp;by_cases c1:f.Xi=1
 ·rw[Zc c1] at hp;simp only[Zi] at hp;have e:QaM f=[.str f.Xj,.str (Qa2 f.Of),.int f.Lo,.int f.Hi]:=by unfold QaM;simp[c1]
  have:=QcR hp.2;refine⟨by omega,?_,by rw[e];simp,λh=>by omega⟩;rw[e];simp only[Zp,ZN,Yd,Yi,forall_eq];exact⟨hnv,QhM (by rw[hp.1];simp),QbO (by omega),QbO (by omega)⟩
 rw[Zd c1] at hp;by_cases c2:f.Xi=2
 ·rw[Zc c2] at hp;have e:QaM f=[.str f.Xj,.int f.Lo,.int f.Hi]:=by unfold QaM;simp[c2]
  have:=QcR hp;refine⟨by omega,?_,by rw[e];simp,λh=>by omega⟩;rw[e];simp only[Zp,ZN,Yd,Yi,forall_eq];exact⟨hnv,QbO (by omega),QbO (by omega)⟩
 rw[Zd c2] at hp;by_cases c3:f.Xi=3
 ·rw[Zc c3] at hp;simp only[QiA,Zi,ZH,ZW] at hp;obtain⟨hg,⟨⟨hw,hl⟩,_⟩,hws⟩:=hp;have hw':=(Qb5 hw).2;have hl':f.Words.length=f.Xf.length:=by omega
  have e:QaM f=[.str f.Xj,.int (f.Words.length:Int)]++(f.Words.zip f.Xf).flatMap λp=>[.str p.1,.int p.2]:=by unfold QaM;simp[c3]
  refine⟨by omega,?_,?_,λ_=>⟨hl',by omega⟩⟩
  ·rw[e];intro v hv;rcases Zt.1 hv with hv | hv
   ·simp only[Zp,ZN,Yd] at hv;rcases hv with rfl | rfl
    ·exact hnv
    ·exact QbO (by omega)
   ·obtain⟨p,hp,hv⟩:=ZM.1 hv;obtain⟨a,b⟩:=p;have hz:=of_mem_zip hp;simp only[Zp,ZN,Yd] at hv;rcases hv with rfl | rfl
    ·exact Qe4 (hws _ hz.1)
    ·have:=Qb5 (hg _ hz.2);exact QbO (by omega)
  ·rw[e,Ze,Qpp,length_zip];simp only[Zj,Zl];omega
 rw[Zd c3] at hp;by_cases c4:f.Xi=4
 ·rw[Zc c4] at hp;simp only[Zi] at hp;have e:QaM f=[.str f.Xj,.str (Qa2 f.Of),.int f.Lo,.int f.Hi]:=by unfold QaM;simp[c4]
  have:=QcR hp.2;refine⟨by omega,?_,by rw[e];simp,λh=>by omega⟩;rw[e];simp only[Zp,ZN,Yd,Yi,forall_eq];exact⟨hnv,QhM hp.1,QbO (by omega),QbO (by omega)⟩
 rw[Zd c4] at hp;by_cases c5:f.Xi=5
 ·rw[Zc c5] at hp;simp only[Zi] at hp;have e:QaM f=[.str f.Xj,.str (Qa2 f.Of),.int f.Lo,.int f.Hi]:=by unfold QaM;simp[c5]
  have:=QcR hp.2;refine⟨by omega,?_,by rw[e];simp,λh=>by omega⟩;rw[e];simp only[Zp,ZN,Yd,Yi,forall_eq];exact⟨hnv,QhM (by rw[hp.1];simp),QbO (by omega),QbO (by omega)⟩
 rw[Zd c5] at hp;by_cases c6:f.Xi=6
 ·rw[Zc c6] at hp;have e:QaM f=[.str f.Xj,.str f.Of]:=by unfold QaM;simp[c6]
  refine⟨by omega,?_,by rw[e];simp,λh=>by omega⟩;rw[e];simp only[Zp,ZN,Yd,Yi,forall_eq];exact⟨hnv,Qe4 hp⟩
 rw[Zd c6] at hp;by_cases c7:f.Xi=7
 ·rw[Zc c7] at hp;simp only[Zi] at hp;have e:QaM f=[.str f.Xj,.str f.Up,.str f.Of,.int f.Lo,.int f.Hi]:=by unfold QaM;simp[c7]
  have:=QcR hp.2;refine⟨by omega,?_,by rw[e];simp,λh=>by omega⟩;rw[e];simp only[Zp,ZN,Yd,Yi,forall_eq];exact⟨hnv,Qe4 hp.1.2,Qe4 hp.1.1,QbO (by omega),QbO (by omega)⟩
 rw[Zd c7] at hp;by_cases c8:f.Xi=8
 ·rw[Zc c8] at hp;simp only[Zi] at hp;have e:QaM f=[.str f.Xj,.str f.Up,.str f.Of]:=by unfold QaM;simp[c8]
  refine⟨by omega,?_,by rw[e];simp,λh=>by omega⟩;rw[e];simp only[Zp,ZN,Yd,Yi,forall_eq];exact⟨hnv,Qe4 hp.2,Qe4 hp.1⟩
 rw[Zd c8] at hp;cases hp
def Qpq {f:Qd} (h:0<=f.Xi/\f.Xi<=8):idx QjZ f.Xi=some (QkN f)/\1<=(QkN f).length/\(QkN f).length<=10:=by
 obtain⟨k,hk⟩:=Zy h.1;have hk8:k<=8:=by omega
 unfold QkN;rw[hk,Qc6,Zq];have:k=0\/k=1\/k=2\/k=3\/k=4\/k=5\/k=6\/k=7\/k=8:=by omega
 rcases this with rfl | rfl | rfl | rfl | rfl | rfl | rfl | rfl | rfl<;>exact⟨rfl,by decide,by decide⟩
def Qye {f:Qd} (h:QoP f):Qfv f=some (Qeu f):=by
 obtain⟨e0,w1,w2⟩:=Qpq h.kind;have fin:QaI (QkN f) (QaM f)=some (Qeu f):=QiT w1 w2 (by have:=h.count;omega) h.items;unfold Qfv;rw[e0];simp only[Za];by_cases c0:f.Xi=0
 ·rw[Zc (by simp[c0])];have e:QaM f=[.str f.Xj,.int f.Lo]:=by unfold QaM;simp[c0]
  rw[<-e,fin];rfl
 rw[Zd (by simpa using c0)];by_cases c2:f.Xi=2
 ·rw[Zc (by simp[c2])];have e:QaM f=[.str f.Xj,.int f.Lo,.int f.Hi]:=by unfold QaM;simp[c2]
  rw[<-e,fin];rfl
 rw[Zd (by simpa using c2)];by_cases c3:f.Xi=3
 ·rw[Zc (by simp[c3])];obtain⟨p1,p2⟩:=h.pick c3;have e:QaM f=[.str f.Xj,.int (f.Words.length:Int)]++(f.Words.zip f.Xf).flatMap λp=>[.str p.1,.int p.2]:=by unfold QaM;simp[c3]
  refine Qb8 f.Words.length (λn=>((n:Int),[.str f.Xj,.int (f.Words.length:Int)]++((f.Words.zip f.Xf).take n).flatMap λp=>[.str p.1,.int p.2])) _ (by simp) (λn hn=>?_) (Zd (by simp)) ?_
  ·have hlen:(((f.Words.zip f.Xf).take n).flatMap λp=>[AnyV.str p.1,AnyV.int p.2]).length<=100:=by
    rw[Qpp,Yc,length_zip];omega
   rw[Zc (by simpa using hn)];dsimp only;rw[QI hn,QI (by omega)];simp only[Za];rw[QaT (by simp only[Ze,Zj,Zl];omega),Qw hn (by omega),<-Qv8 p1 n hn,ZA];rfl
  ·dsimp only;rw[ZG (by rw[length_zip];omega),<-e,fin];rfl
 rw[Zd (by simpa using c3)];by_cases c6:f.Xi=6
 ·rw[Zc (by simp[c6])];have e:QaM f=[.str f.Xj,.str f.Of]:=by unfold QaM;simp[c6]
  rw[<-e,fin];rfl
 rw[Zd (by simpa using c6)];by_cases c7:f.Xi=7
 ·rw[Zc (by simp[c7])];have e:QaM f=[.str f.Xj,.str f.Up,.str f.Of,.int f.Lo,.int f.Hi]:=by unfold QaM;simp[c7]
  rw[<-e,fin];rfl
 rw[Zd (by simpa using c7)];by_cases c8:f.Xi=8
 ·rw[Zc (by simp[c8])];have e:QaM f=[.str f.Xj,.str f.Up,.str f.Of]:=by unfold QaM;simp[c8]
  rw[<-e,fin];rfl
 rw[Zd (by simpa using c8),Qm2];simp only[Za];have e:QaM f=[.str f.Xj,.str (Qa2 f.Of),.int f.Lo,.int f.Hi]:=by unfold QaM;simp[c0,c2,c3,c6,c7,c8]
 rw[<-e,fin];rfl
def Qg0 {f:Qd} (h:QoP f):(Qeu f).length<=4000:=by have:=Qgp (Qpq h.kind).2.2 h.items;have:=h.count;unfold Qeu;omega
def Qdy {α:Type} (l:List α) (g:α->Str) (B:Nat) (hB:∀a∈l,(g a).length<=B) (a0:Str) {body:Int×Str->Option ((Int×Str)⊕Str)}
  (hs:∀k (h:k<l.length) acc,acc.length<=a0.length+k * B->body ((k:Int),acc)=some (.inl (((k+1:Nat):Int),acc++g l[k]))) (he:∀acc,body ((l.length:Int),acc)=some (.inr acc)):
  Qm body ((0:Int),a0)=some (a0++l.flatMap g):=by
 have hlen:∀n,n<=l.length->((l.take n).flatMap g).length<=n * B:=λn=>by
  induction n with
  | zero=>intro _;simp
  | succ n ih=>intro hn;rw[Zw (by omega),ZF,Ze,Nat.succ_mul];have h1:=ih (by omega);have h2:=hB _ (Zk (show n<l.length by omega));simp only[flatMap_cons,flatMap_nil,Yh];omega
 have h:=QbZ (body:=body) l.length (λn=>((n:Int),a0++(l.take n).flatMap g)) (a0++l.flatMap g) (λk hk=>?_) ?_
 ·simpa using h
 ·rw[hs k hk _ (by rw[Ze];have:=hlen k (by omega);omega),Zw hk,ZF];simp
 ·rw[he];simp
def Qe5 (k:Qi):Str:=Qeb [107,105,110,100] [.str k.Xj,.int k.Lo,.int k.Hi]++k.Xb.flatMap Qeu
def Qhd (m:QR):Str:=Qeb [109,111,118,101] [.int m.a0,.int m.a1]
def QfS (l:QC):Str:=Qeb [108,105,102,101] ([.str l.Xj,.int (l.Xe.length:Int)]++l.Xe.map .str)++l.Xg.flatMap Qhd
def Qfe (r:Qp):List AnyV:=[.str r.Xj,.str r.Xi,.str (Qa2 r.A),.str (Qa2 r.B),.int r.N]
def QhN (r:Qp):Str:=Qeb [114,117,108,101] (Qfe r)
def srcS (x:Qb):Str:=Qeb [115,99,104,101,109,97] [.int x.Version]++x.Xa.flatMap Qe5++x.Xd.flatMap QfS++x.Xc.flatMap QhN
def QbW {k:Qi} (h:Qdq k=true):(∀v∈[AnyV.str k.Xj,.int k.Lo,.int k.Hi],VOk v)/\k.Xb.length<=10/\∀f∈k.Xb,QaG f=true:=by simp only[Qdq,Zi,ZH,Zo] at h;obtain⟨⟨⟨h1,h2⟩,h3⟩,h4⟩:=h;have:=QcR h2;refine⟨?_,by omega,h4⟩;simp only[Zp,ZN,Yd,Yi,forall_eq];exact⟨Qe4 h1,QbO (by omega),QbO (by omega)⟩
def Qgq {α:Type} {l:List α} {g:α->Str} {B:Nat} (h:∀a∈l,(g a).length<=B):(l.flatMap g).length<=l.length * B:=by
 induction l with
 | nil=>simp
 | cons a l ih=>have h1:=ih λb hb=>h b (Zs _ hb);have h2:=h a Zn;rw[flatMap_cons,Ze,Zj,Nat.succ_mul];omega
def QjM {k:Qi} (h:Qdq k=true):(Qe5 k).length<=50000:=by obtain⟨h1,h2,h3⟩:=QbW h;have e1:=Qgp (w:=[107,105,110,100]) (by decide) h1;have e2:=Qgq (l:=k.Xb) (g:=Qeu) (B:=4000) λf hf=>Qg0 (Qie (h3 f hf));unfold Qe5;rw[Ze];simp only[Zj,Zl] at e1;omega
def Qv9 {n:Int} (hn:n<=1000) {m:QR} (h:QhW n m=true):∀v∈[AnyV.int m.a0,.int m.a1],VOk v:=by simp only[QhW,Zi] at h;have h1:=Qb5 h.1;have h2:=Qb5 h.2;simp only[Zp,ZN,Yd,Yi,forall_eq];exact⟨QbO (by omega),QbO (by omega)⟩
def Qwa {l:QC} (h:Qfn l=true):(∀v∈[AnyV.str l.Xj,.int (l.Xe.length:Int)]++l.Xe.map .str,VOk v)/\l.Xe.length<=12/\l.Xg.length<=32/\∀m∈l.Xg,∀v∈[AnyV.int m.a0,.int m.a1],VOk v:=by
 simp only[Qfn,Zi,ZH,Zo] at h;obtain⟨⟨⟨⟨h1,h2⟩,h3⟩,h4⟩,h5⟩:=h;have hl:=(Qb5 h2).2;refine⟨λv hv=>?_,by omega,by omega,λm hm=>Qv9 (by omega) (h5 m hm)⟩;rcases Zt.1 hv with hv | hv
 ·simp only[Zp,ZN,Yd] at hv;rcases hv with rfl | rfl
  ·exact Qe4 h1
  ·exact QbO (by omega)
 ·obtain⟨s,hs,rfl⟩:=ZE.1 hv;exact Qe4 (h3 s hs)
def QhX {m:QR} (h:∀v∈[AnyV.int m.a0,.int m.a1],VOk v):(Qhd m).length<=300:=by have:=Qgp (w:=[109,111,118,101]) (by decide) h;simp only[Zj,Zl] at this;unfold Qhd;omega
def QhY {l:QC} (h:Qfn l=true):(QfS l).length<=20000:=by obtain⟨h1,h2,h3,h4⟩:=Qwa h;have e1:=Qgp (w:=[108,105,102,101]) (by decide) h1;have e2:=Qgq (l:=l.Xg) (g:=Qhd) (B:=300) λm hm=>QhX (h4 m hm);unfold QfS;rw[Ze];simp only[Ze,Zj,Zl,Zv] at e1;omega
def Qwb {r:Qp} (h:QdK r=true):∀v∈Qfe r,VOk v:=by simp only[QdK,Zi] at h;obtain⟨⟨⟨⟨⟨h1,h2⟩,h3⟩,h4⟩,_⟩,h5⟩:=h;have:=Qb5 h5;unfold Qfe;simp only[Zp,ZN,Yd,Yi,forall_eq];exact⟨Qe4 h1,Qe4 h2,QhM h3,QhM h4,QbO (by omega)⟩
def QjN {r:Qp} (h:QdK r=true):(QhN r).length<=1000:=by have:=Qgp (w:=[114,117,108,101]) (by decide) (Qwb h);have e:(Qfe r).length=5:=rfl;unfold QhN;omega
def QgW (x:Qb):Bool:=((((inW x.Version 0 1048576&&decide ((x.Xa.length:Int)<=6))&&decide ((x.Xd.length:Int)<=6))&&decide ((x.Xc.length:Int)<=16))&&x.Xa.all Qdq)&&x.Xd.all Qfn&&x.Xc.all QdK
structure Qe6 (x:Qb):Prop where
 version:0<=x.Version/\x.Version<=1048576
 kinds:x.Xa.length<=6
 lives:x.Xd.length<=6
 rules:x.Xc.length<=16
 kind:∀k∈x.Xa,Qdq k=true
 life:∀l∈x.Xd,Qfn l=true
 rule:∀r∈x.Xc,QdK r=true
def Qjy {x:Qb} (h:QgW x=true):Qe6 x:=by simp only[QgW,Zi,ZH,Zo] at h;obtain⟨⟨⟨⟨⟨⟨h1,h2⟩,h3⟩,h4⟩,h5⟩,h6⟩,h7⟩:=h;exact⟨Qb5 h1,by omega,by omega,by omega,h5,h6,h7⟩
def Qwc {x:Qb} (h:Qe6 x):QeV x=some (srcS x):=by
 have hv:=h.version;have v0:∀v∈[AnyV.int x.Version],VOk v:=by simp only[Zp,ZN,Yd,forall_eq];exact QbO (by omega)
 have l0:=Qgp (w:=[115,99,104,101,109,97]) (by decide) v0;simp only[Zj,Zl] at l0;have lk:=Qgq (l:=x.Xa) (g:=Qe5) (B:=50000) λk hk=>QjM (h.kind k hk);have ll:=Qgq (l:=x.Xd) (g:=QfS) (B:=20000) λk hk=>QhY (h.life k hk);have nk:=h.kinds;have nl:=h.lives;have nr:=h.rules;unfold QeV;rw[QiT (by decide) (by decide) (by simp) v0];simp only[Za];rw[Qfo (by rw[Zl];omega)];simp only[Za,Ye];rw[Qdy x.Xa Qe5 50000 (λk hk=>QjM (h.kind k hk)) (Qeb [115,99,104,101,109,97] [.int x.Version]) (λk hk acc hacc=>?_) (λacc=>Zd (by simp))]
 ·simp only[Za];rw[Qdy x.Xd QfS 20000 (λk hk=>QhY (h.life k hk)) (Qeb [115,99,104,101,109,97] [.int x.Version]++x.Xa.flatMap Qe5) (λk hk acc hacc=>?_) (λacc=>Zd (by simp))]
  ·simp only[Za];rw[Qdy x.Xc QhN 1000 (λk hk=>QjN (h.rule k hk)) (Qeb [115,99,104,101,109,97] [.int x.Version]++x.Xa.flatMap Qe5++x.Xd.flatMap QfS) (λk hk acc hacc=>?_) (λacc=>Zd (by simp))]
   ·simp only[Za];have e:Qg6 (srcS x)=some (srcS x):=Zd λh=>by
     have:=Ya length h;simp only[srcS,Qeb,Ze,Zj,Zl] at this;omega
    show (Qg6 (srcS x)).bind _=_;rw[e];rfl
   ·have hr:=h.rule _ (Zk hk);have hrl:=QjN hr;rw[Zc (by simpa using hk)];dsimp only;rw[QI hk];simp only[Za];rw[Qm2,Qm2];simp only[Za];show (QaI [114,117,108,101] (Qfe x.Xc[k])).bind _=_;rw[QiT (by decide) (by decide) (by simp[Qfe]) (Qwb hr)];simp only[Za];rw[Ze,Ze] at hacc;rw[Qfo (by show acc.length+(QhN x.Xc[k]).length<=_;omega),Qw hk (by omega)];rfl
  ·have hl:=h.life _ (Zk hk);obtain⟨w1,w2,w3,w4⟩:=Qwa hl;have hll:=QhY hl;rw[Zc (by simpa using hk)];dsimp only;rw[QI hk];simp only[Za];have hst:∀n,n<=x.Xd[k].Xe.length->([AnyV.str x.Xd[k].Xj,.int (x.Xd[k].Xe.length:Int)]++(x.Xd[k].Xe.take n).map AnyV.str).length<=100:=λn hn=>by
    simp only[Ze,Zj,Zl,Zv,Yc];omega
   refine Qb8 x.Xd[k].Xe.length (λn=>((n:Int),[AnyV.str x.Xd[k].Xj,.int (x.Xd[k].Xe.length:Int)]++(x.Xd[k].Xe.take n).map AnyV.str)) _ (by simp) (λn hn=>?_) (Zd (by simp)) ?_
   ·rw[Zc (by simpa using hn)];dsimp only;rw[QI hn];simp only[Za];rw[QaT (by have:=hst n (by omega);rw[length_singleton];omega),Qw hn (by omega),Zw hn,ZT,<-ZA];rfl
   ·dsimp only;rw[ZG (Zx _),QiT (by decide) (by decide) (by have:=hst _ (Zx _);rw[ZG (Zx _)] at this;omega) w1];simp only[Za];have l1:=Qgp (w:=[108,105,102,101]) (by decide) w1;simp only[Ze,Zj,Zl,Zv] at l1;rw[Ze] at hacc;rw[Qfo (by omega)];simp only[Za];rw[Qdy x.Xd[k].Xg Qhd 300 (λm hm=>QhX (w4 m hm)) _ (λq hq acc2 hacc2=>?_) (λacc=>Zd (by simp))]
    ·simp only[Za];rw[Qw hk (by omega)];simp[QfS]
    ·have hm:=w4 _ (Zk hq);have hml:=QhX hm;rw[Zc (by simpa using hq)];dsimp only;rw[QI hq];simp only[Za];rw[QiT (by decide) (by decide) (by simp) hm];simp only[Za];rw[Ze] at hacc2;rw[Qfo (by show acc2.length+(Qhd x.Xd[k].Xg[q]).length<=_;omega),Qw hq (by omega)];rfl
 ·have hk':=h.kind _ (Zk hk);obtain⟨w1,w2,w3⟩:=QbW hk';have l1:=Qgp (w:=[107,105,110,100]) (by decide) w1;simp only[Zj,Zl] at l1;rw[Zc (by simpa using hk)];dsimp only;rw[QI hk];simp only[Za];rw[QiT (by decide) (by decide) (by simp) w1];simp only[Za];rw[Qfo (by omega)];simp only[Za];rw[Qdy x.Xa[k].Xb Qeu 4000 (λf hf=>Qg0 (Qie (w3 f hf))) _ (λq hq acc2 hacc2=>?_) (λacc=>Zd (by simp))]
  ·simp only[Za];rw[Qw hk (by omega)];simp[Qe5]
  ·have hf:=Qie (w3 _ (Zk hq));have hfl:=Qg0 hf;rw[Zc (by simpa using hq)];dsimp only;rw[QI hq];simp only[Za];rw[Qye hf];simp only[Za];rw[Ze] at hacc2;rw[Qfo (by omega),Qw hq (by omega)];rfl
def QfI (x:Qb):Int:=if QgW x=true then (if (srcS x).length>8192 then 4 else 0) else 1
def Fine (x:Qb):Prop:=(x.Xa.length<=1000000/\∀k∈x.Xa,QlN k.Xb)/\(x.Xd.length<=1000000/\∀l∈x.Xd,l.Xe.length<=1000000/\l.Xg.length<=1000000)/\x.Xc.length<=1000000
def Sz.fine {x:Qb} (h:Sz x):Fine x:=by
 obtain⟨⟨a1,a2⟩,⟨b1,b2⟩,c,_⟩:=h;refine⟨⟨by omega,λk hk=>⟨by have:=(a2 k hk).1;omega,λf hf=>?_⟩⟩,⟨by omega,λl hl=>?_⟩,by omega⟩
 ·have:=(a2 k hk).2.1 f hf;exact⟨by have:=this.1;omega,by have:=this.2.1;omega⟩
 ·have:=b2 l hl;exact⟨by omega,by omega⟩
def Qyf {x:Qb} (h:Fine x):Qfw x=some (QfI x):=by
 obtain⟨⟨a1,a2⟩,⟨b1,b2⟩,c⟩:=h;unfold Qfw;rw[QBM (p:=Qdq) a1 (λk hk=>Qv5 (a2 k hk)),QBN (p:=Qfn) b1 (λl hl=>Qv6 (b2 l hl).1 (b2 l hl).2),QBO (p:=QdK) c (λr _=>Qv7 r)];show (some (inW x.Version 0 1048576)).bind _=_;simp only[Za];have n1:∀(n:Nat) (m:Int),decide ((n:Int)>m)=!decide ((n:Int)<=m):=λn m=>by
  by_cases h:(n:Int)<=m
  ·rw[decide_eq_true h,decide_eq_false (by omega)];rfl
  ·rw[decide_eq_false h,decide_eq_true (by omega)];rfl
 rw[n1,n1,n1];unfold QfI
 cases hv:QgW x with
 | true=>
  have hs:=Qwc (Qjy hv);simp only[QgW,Zi] at hv;obtain⟨⟨⟨⟨⟨⟨h1,h2⟩,h3⟩,h4⟩,h5⟩,h6⟩,h7⟩:=hv;simp only[h1,h2,h3,h4,h5,h6,h7,Sim.opt,Bool.not_true,Bool.or_self,beq_self_eq_true,if_true,Za];rw[Zd (by decide),hs];simp only[Za];by_cases hl:(srcS x).length>8192
  ·rw[Zc (by simp;omega),Zc hl]
  ·rw[Zd (by simp;omega),Zd hl]
 | false=>
  rw[Zd (by decide)];unfold QgW at hv
  cases h1:inW x.Version 0 1048576<;>cases h2:decide ((x.Xa.length:Int)<=6)<;>cases h3:decide ((x.Xd.length:Int)<=6)<;>cases h4:decide ((x.Xc.length:Int)<=16)<;>
   cases h5:x.Xa.all Qdq<;>cases h6:x.Xd.all Qfn<;>cases h7:x.Xc.all QdK<;>first | rfl | (rw[h1,h2,h3,h4,h5,h6,h7] at hv;cases hv)

/- Counts: the generators of limits and of numbers give a result; Holds, both ways. No condition. -/
import Derived.Test.YtlajingmjmnfgaaGreatDoorGenAll
import Derived.Test.YtlajingmjmnfgaaGreatDoorOk
set_option linter.all false
open List Go.IntKind
namespace Go.Proofs.YtlajingmjmnfgaaGreatDoor
open Go.Sim
def Qtj {p n:Int} (hp:I64 p):Ok (Qb6 p n) (λr=>0<=r/\(1<=n->r<n)):=by
 have hp':=hp;unfold I64 at hp';have key:∀q:Int,0<=q->Ok (if decide (n<1)=true then some 0 else (nz n).bind λ_=>some (Int.tmod q n)) (λr=>0<=r/\(1<=n->r<n)):=λq hq=>by
  refine Ok.ite (λh=>?_) (λh=>?_)
  ·have:n<1:=ZC h;exact Ok.mk ⟨ZO _,λh=>by omega⟩
  ·have:¬n<1:=ZS h;rw[Qn5 (by omega)];exact Ok.mk ⟨Int.tmod_nonneg _ hq,λ_=>Int.tmod_lt_of_pos _ (by omega)⟩
 unfold Qb6;refine Ok.bind (P:=λq=>0<=q) (Ok.ite (λh=>?_) (λh=>?_)) (λq hq=>key q hq)
 ·have:p<0:=ZC h;refine Ok.mk ?_;have e1:i64.wrap (p+1)=p+1:=w64 (by omega) (by omega);rw[e1,w64 (by omega) (by omega)];omega
 ·have:¬p<0:=ZS h;exact Ok.mk (by omega)
section
variable {β:Type} {Q:β->Prop}
def Ok.arnd {p n:Int} {f:Int->Option β} (hp:I64 p) (hn:1<=n) (k:∀r,0<=r->r<n->Ok (f r) Q):Ok ((Qb6 p n).bind f) Q:=(Qtj hp).bind λr h=>k r h.1 (h.2 hn)
def at_ok {l:List Int} {i n:Int} (hl:∀x∈l,I64 x) (hn:1<=n):Ok (QbG l i n) (λr=>0<=r/\r<n):=by unfold QbG;refine Ok.ite (λh=>Ok.mk ⟨ZO _,by omega⟩) (λh=>?_);simp only[Bool.or_eq_false_iff,ZK] at h;refine Ok.idx (by omega) (by omega) λv hv _=>?_;exact Ok.arnd (hl v hv) hn λr h0 h1=>Ok.mk ⟨h0,h1⟩
def Ok.at1 {l:List Int} {i n:Int} {f:Int->Option β} (hl:∀x∈l,I64 x) (hn:1<=n) (k:∀r,0<=r->r<n->Ok (f r) Q):Ok ((QbG l i n).bind f) Q:=(at_ok hl hn).bind λr h=>k r h.1 h.2
end
def toC (x:QB):Qi:=⟨x.A,x.B,x.Mul,x.Xh⟩
def nth (c:List Int) (i:Int):Int:=c.getD i.toNat 0
def bndS (l:Qi) (c:List Int):Int:=if l.B<0 then l.Mul else l.Mul * nth c l.B
def Qn7 (l:Qi) (c:List Int):Bool:=if l.Xh=true then decide (nth c l.A>=bndS l c) else decide (nth c l.A<=bndS l c)
structure VL (l:Qi) (n:Int):Prop where
 a0:0<=l.A
 a1:l.A<n
 b0:-1<=l.B
 b1:l.B<n
 m0:0<=l.Mul
 m1:l.Mul<=65536
def Qf3 {c:List Int} {i:Int} (h0:0<=i) (h1:i<c.length):idx c i=some (nth c i):=by
 have hlt:i.toNat<c.length:=by omega
 rw[QgN c h0,Zb hlt];unfold nth;rw[Zi,Zb hlt];rfl
def Qcr {c:List Int} {i:Int} (h0:0<=i) (h1:i<c.length):nth c i∈c:=by
 have hlt:i.toNat<c.length:=by omega
 unfold nth;rw[Zi,Zb hlt];exact Zm hlt
def QCg {a b:Int} (a0:0<=a) (a1:a<=65536) (b0:0<=b) (b1:b<=65536):0<=a * b/\a * b<=4294967296:=⟨Int.mul_nonneg a0 b0,Int.le_trans (Int.mul_le_mul a1 b1 b0 (by decide)) (by decide)⟩
def fIx {α:Type} (s:List α) (p:α->Bool):Int:=match s.findIdx? p with | some k=>(k:Int) | none=>-1
def QCh {α:Type} (s:List α) (p:α->Bool):decide (fIx s p>=0)=s.any p:=by
 unfold fIx
 cases h:s.findIdx? p with
 | none=>
  rw[findIdx?_eq_none_iff] at h;have:s.any p=false:=by rw[any_eq_false];intro x hx;simpa using h x hx
  rw[this];rfl
 | some k=>obtain⟨hk,hp,_⟩:=ZD.1 h;have:s.any p=true:=Yo.2 ⟨_,Zm hk,hp⟩;rw[this];exact decide_eq_true (Int.natCast_nonneg k)
def Qn8 {α:Type} (s:List α) (p:α->Bool) {body:Int->Option (Int⊕(Unit⊕Int))}
  (hb:∀k (h:k<s.length),body (k:Int)=if p s[k]=true then some (.inr (.inr (k:Int))) else some (.inl ((k+1:Nat):Int))) (he:body (s.length:Int)=some (.inr (.inl ()))):
  Ql body (0:Int)=some (match s.findIdx? p with | some k=>.inr (k:Int) | none=>.inl ()):=by
 obtain⟨q,hq⟩:∃q:Nat->Bool,∀k (h:k<s.length),q k=p s[k]:=⟨λk=>if h:k<s.length then p s[k] else false,λk h=>dif_pos h⟩
 rcases QhE (ρ:=Unit⊕Int) s.length q (.inl ()) (λk=>.inr (k:Int))
  (λk hk hp=>by rw[hb k hk,Zd (by rw[<-hq k hk,hp];decide)]) (λk hk hp=>by rw[hb k hk,Zc (by rw[<-hq k hk,hp])]) he with⟨k,hk,hp,hj,e⟩ | ⟨hp,e⟩
 ·have:s.findIdx? p=some k:=by
   rw[ZD];refine⟨hk,by rw[<-hq k hk,hp],λj hj'=>?_⟩;have:=hj j hj';rw[hq j (by omega)] at this;simp[this]
  rw[e,this]
 ·have:s.findIdx? p=none:=by
   rw[findIdx?_eq_none_iff];intro x hx;obtain⟨k,hk,rfl⟩:=Ye hx;have:=hp k hk
   rwa [hq k hk] at this
  rw[e,this]
def Qmw {l:List Int} {k:Nat} (h:k<l.length):nth l (k:Int)=l[k]:=by simp[nth,Zi,h]
def QCi {l:List Int} {i j n:Int} (hi:0<=i) (hj:0<=j) (h:i<l.length):nth (l.set i.toNat n) j=if i=j then n else nth l j:=by
 obtain⟨a,rfl⟩:=Zx hi;obtain⟨b,rfl⟩:=Zx hj;unfold nth;simp only[Zv,Zi,getElem?_set];by_cases e:a=b
 ·subst e;have:a<l.length:=by omega
  simp[this]
 ·have e':¬((a:Int)=(b:Int)):=by omega
  rw[Zd e,Zd e']
def Qtk {a m x:Int} (hm:0<m):(a+m - 1) / m<=x↔a<=m * x:=by
 constructor
 ·intro h;have h1:=Int.lt_mul_ediv_self_add (x:=a+m - 1) hm;have h2:m * ((a+m - 1) / m)<=m * x:=Int.mul_le_mul_of_nonneg_left h (by omega);omega
 ·intro h;have h1:(a+m - 1) / m<x+1:=by
   rw[Int.ediv_lt_iff_lt_mul hm,Int.add_mul,Int.one_mul,Int.mul_comm x m];omega
  omega
def u64w {n:Int} (h0:0<=n) (h1:n<18446744073709551616):u64.wrap n=n:=by simp only[IntKind.wrap,IntKind.bits,IntKind.signed];simp;omega
def Qn9 {m:Nat} (h:m<2 ^ 64):(BitVec.ofInt 64 (m:Int)).toNat=m:=by rw[BitVec.toNat_ofInt];have:((m:Int) % ((2 ^ 64:Nat):Int))=m:=Int.emod_eq_of_lt (by omega) (by omega);rw[this];simp
def QhW {a b:Nat} (ha:a<2 ^ 64) (hb:b<2 ^ 64):iand .u64 (a:Int) (b:Int)=((a&&& b:Nat):Int):=by unfold iand;show u64.wrap (((BitVec.ofInt 64 (a:Int)&&& BitVec.ofInt 64 (b:Int)).toNat:Nat):Int)=_;rw[BitVec.toNat_and,Qn9 ha,Qn9 hb];have:=Nat.and_lt_two_pow a hb;exact u64w (by omega) (by omega)
def num (S:List Nat):Nat:=S.foldr (λi a=>2 ^ i+a) 0
def Up (S:List Nat):Prop:=S.Pairwise (·< ·)
def QCj (q j:Nat):(2 * q+1).testBit (j+1)=q.testBit j:=by rw[Nat.testBit_succ];congr 1;omega
def QyG (q j:Nat):(2 * q).testBit (j+1)=q.testBit j:=by rw[Nat.testBit_succ];congr 1;omega
def QyH (q:Nat):(2 * q+1).testBit 0=true:=by simp
def Qwo (q:Nat):(2 * q).testBit 0=false:=by simp
def oh1 (x:Nat):Nat:=((x>>>1)&&& 6148914691236517205)+(x&&& 6148914691236517205)
def oh2 (x:Nat):Nat:=((x>>>2)&&& 3689348814741910323)+(x&&& 3689348814741910323)
def oh3 (x:Nat):Nat:=((x>>>4)+x)&&& 1085102592571150095
def oh4 (x:Nat):Nat:=x+(x>>>8)
def oh5 (x:Nat):Nat:=x+(x>>>16)
def oh6 (x:Nat):Nat:=(x+(x>>>32))&&& 127
def ones (x:Nat):Nat:=oh6 (oh5 (oh4 (oh3 (oh2 (oh1 x)))))
def og1 (x:Int):Int:=u64.wrap ((iand .u64 (ishr .u64 x (1:Int)) (6148914691236517205:Int))+(iand .u64 x (6148914691236517205:Int)))
def og2 (x:Int):Int:=u64.wrap ((iand .u64 (ishr .u64 x (2:Int)) (3689348814741910323:Int))+(iand .u64 x (3689348814741910323:Int)))
def og3 (x:Int):Int:=iand .u64 (u64.wrap ((ishr .u64 x (4:Int))+x)) (1085102592571150095:Int)
def og4 (x:Int):Int:=u64.wrap (x+(ishr .u64 x (8:Int)))
def og5 (x:Int):Int:=u64.wrap (x+(ishr .u64 x (16:Int)))
def og6 (x:Int):Int:=iand .i64 (i64.wrap (u64.wrap (x+(ishr .u64 x (32:Int))))) (127:Int)
def Quj (x:Int):QeT x=some (og6 (og5 (og4 (og3 (og2 (og1 x)))))):=rfl
def Qhj (m k:Nat) (hk:k<=64):ishr .u64 (m:Int) (k:Int)=((m>>>k:Nat):Int):=by
 unfold ishr;rw[Zv,show u64.bits=64 from rfl,Nat.min_eq_left hk,Int.fdiv_eq_ediv_of_nonneg _ (by exact_mod_cast Nat.zero_le (2 ^ k)),Nat.shiftRight_eq_div_pow]
 norm_cast
def Qjr (m k:Nat):m>>>k<=m:=by rw[Nat.shiftRight_eq_div_pow];exact Nat.div_le_self _ _
def uadd {a b:Nat} (h:a+b<18446744073709551616):u64.wrap ((a:Int)+(b:Int))=((a+b:Nat):Int):=by rw[u64w (by omega) (by omega)];omega
def og1_is {x:Nat} (h:x<2 ^ 64):og1 (x:Int)=(oh1 x:Int)/\oh1 x<2 ^ 64:=by have h1:=Nat.and_le_right (n:=x>>>1) (m:=6148914691236517205);have h2:=Nat.and_le_right (n:=x) (m:=6148914691236517205);have h3:=Qjr x 1;refine⟨?_,by unfold oh1;omega⟩;unfold og1 oh1;rw[show (1:Int)=((1:Nat):Int) from rfl,Qhj _ _ (by omega),show (6148914691236517205:Int)=((6148914691236517205:Nat):Int) from rfl,QhW (by omega) (by omega),QhW h (by omega),uadd (by omega)]
def og2_is {x:Nat} (h:x<2 ^ 64):og2 (x:Int)=(oh2 x:Int)/\oh2 x<2 ^ 63:=by have h1:=Nat.and_le_right (n:=x>>>2) (m:=3689348814741910323);have h2:=Nat.and_le_right (n:=x) (m:=3689348814741910323);have h3:=Qjr x 2;refine⟨?_,by unfold oh2;omega⟩;unfold og2 oh2;rw[show (2:Int)=((2:Nat):Int) from rfl,Qhj _ _ (by omega),show (3689348814741910323:Int)=((3689348814741910323:Nat):Int) from rfl,QhW (by omega) (by omega),QhW h (by omega),uadd (by omega)]
def og3_is {x:Nat} (h:x<2 ^ 63):og3 (x:Int)=(oh3 x:Int)/\oh3 x<2 ^ 60:=by have h3:=Qjr x 4;refine⟨?_,by unfold oh3;have h1:=Nat.and_le_right (n:=(x>>>4)+x) (m:=1085102592571150095);omega⟩;unfold og3 oh3;rw[show (4:Int)=((4:Nat):Int) from rfl,Qhj _ _ (by omega),uadd (by omega),show (1085102592571150095:Int)=((1085102592571150095:Nat):Int) from rfl,QhW (by omega) (by omega)]
def og4_is {x:Nat} (h:x<2 ^ 60):og4 (x:Int)=(oh4 x:Int)/\oh4 x<2 ^ 61:=by have h3:=Qjr x 8;refine⟨?_,by unfold oh4;omega⟩;unfold og4 oh4;rw[show (8:Int)=((8:Nat):Int) from rfl,Qhj _ _ (by omega),uadd (by omega)]
def og5_is {x:Nat} (h:x<2 ^ 61):og5 (x:Int)=(oh5 x:Int)/\oh5 x<2 ^ 62:=by have h3:=Qjr x 16;refine⟨?_,by unfold oh5;omega⟩;unfold og5 oh5;rw[show (16:Int)=((16:Nat):Int) from rfl,Qhj _ _ (by omega),uadd (by omega)]
def og6_is {x:Nat} (h:x<2 ^ 62):og6 (x:Int)=(oh6 x:Int):=by have h3:=Qjr x 32;unfold og6 oh6;rw[show (32:Int)=((32:Nat):Int) from rfl,Qhj _ _ (by omega),uadd (by omega),w64 (by omega) (by omega)];unfold iand;rw[show (127:Int)=((127:Nat):Int) from rfl];show i64.wrap (((BitVec.ofInt 64 (((x+x>>>32:Nat)):Int)&&& BitVec.ofInt 64 ((127:Nat):Int)).toNat:Nat):Int)=_;rw[BitVec.toNat_and,Qn9 (by omega),Qn9 (by omega)];have:=Nat.and_le_right (n:=x+x>>>32) (m:=127);exact w64 (by omega) (by omega)
def Qtl {x:Nat} (h:x<2 ^ 64):Qcp (x:Int)=some ((ones x:Nat):Int):=by unfold Qcp;rw[Quj];obtain⟨e1,b1⟩:=og1_is h;obtain⟨e2,b2⟩:=og2_is b1;obtain⟨e3,b3⟩:=og3_is b2;obtain⟨e4,b4⟩:=og4_is b3;obtain⟨e5,b5⟩:=og5_is b4;rw[e1,e2,e3,e4,e5,og6_is b5];rfl
def Qmx:Nat->Nat->Bool
 | 0,m=>ones m==ones (m / 2)+m % 2
 | f+1,m=>Qmx f (2 * m)&&Qmx f (2 * m+1)
def Qwp:Qmx 16 0=true:=by decide+kernel
def Qnc:∀f m k,Qmx f m=true->m * 2 ^ f<=k->k<(m+1) * 2 ^ f->ones k=ones (k / 2)+k % 2
 | 0,m,k,h,h0,h1=>by
  have:k=m:=by omega
  subst this;simpa[Qmx] using h
 | f+1,m,k,h,h0,h1=>by
  unfold Qmx at h;rw[Zf] at h;rw[Nat.pow_succ] at h0 h1;have e1:m * (2 ^ f * 2)=2 * m * 2 ^ f:=by rw[Nat.mul_comm (2 ^ f) 2,<-Nat.mul_assoc,Nat.mul_comm m 2]
  have e2:(m+1) * (2 ^ f * 2)=(2 * m+2) * 2 ^ f:=by rw[Nat.mul_comm (2 ^ f) 2,<-Nat.mul_assoc];congr 1;omega
  rw[e1] at h0;rw[e2] at h1;by_cases hk:k<(2 * m+1) * 2 ^ f
  ·exact Qnc f (2 * m) k h.1 h0 hk
  ·exact Qnc f (2 * m+1) k h.2 (by omega) h1
def Qwq {m:Nat} (h:m<2 ^ 16):ones m=ones (m / 2)+m % 2:=Qnc 16 0 m Qwp (by omega) (by omega)
def setL (f m:Nat):List Nat:=(range f).filter λi=>m.testBit i
def QgB {f m i:Nat}:i∈setL f m↔i<f/\m.testBit i=true:=by unfold setL;rw[Yn,ZP]
def Qfy:∀(f m:Nat),f<=16->m<2 ^ f->(setL f m).length=ones m
 | 0,m,_,h=>by
  have:m=0:=by omega
  subst this
  decide
 | f+1,m,hf,h=>by
  have h16:m<2 ^ 16:=ZV h (Nat.pow_le_pow_right (by omega) hf);rw[Qwq h16];rw[Nat.pow_succ] at h;have ih:=Qfy f (m / 2) (by omega) (by omega);unfold setL at ih ⊢;rw[range_succ_eq_map,filter_cons,filter_map,<-ih];have e:((λi=>m.testBit i) ∘ Nat.succ)=λi=>(m / 2).testBit i:=by
   funext i
   exact Nat.testBit_succ m i
  rw[e,Nat.testBit_zero];by_cases hb:m % 2=1
  ·rw[Zc (by simpa using hb),Zj,Zz,hb]
  ·rw[Zd (by simpa using hb),Zz];omega
def QdW (n:Nat):List Nat:=(range (n+1)).flatMap λk=>(range (2 ^ n)).filter λm=>ones m==k
def Qfo {n m:Nat} (hn:n<=16):m∈QdW n↔m<2 ^ n:=by
 unfold QdW;simp only[ZW,Yn,ZP,Yd];constructor
 ·rintro ⟨k,_,h,_⟩;exact h
 ·intro h;refine⟨ones m,?_,h,rfl⟩;rw[<-Qfy n m hn h];have:=length_filter_le (λi=>m.testBit i) (range n);rw[ZX] at this;unfold setL;omega
def Qpz {α:Type} (R:α->α->Prop) (F:Nat->List α):∀n,(∀i,i<n->(F i).Pairwise R)->(∀i j,i<j->j<n->∀a∈F i,∀b∈F j,R a b)->((range n).flatMap F).Pairwise R
 | 0,_,_=>by simp
 | n+1,h1,h2=>by rw[Yl,ZQ,Yu,pairwise_append];refine⟨Qpz R F n (λi hi=>h1 i (by omega)) (λi j hij hj=>h2 i j hij (by omega)),h1 n (by omega),λa ha b hb=>?_⟩;obtain⟨i,hi,ha⟩:=ZW.1 ha;exact h2 i n (ZP.1 hi) (by omega) a ha b hb
def Qrh (n:Nat):(QdW n).Pairwise λa b=>ones a<=ones b:=by
 refine Qpz _ _ _ (λi _=>?_) (λi j hij _ a ha b hb=>?_)
 ·refine Pairwise.imp_of_mem (R:=λ_ _=>True) (λ{a b} ha hb _=>?_) (pairwise_of_forall (λ_ _=>trivial));have h1:=(Yn.1 ha).2;have h2:=(Yn.1 hb).2;simp only[Yd] at h1 h2;omega
 ·have h1:=(Yn.1 ha).2;have h2:=(Yn.1 hb).2;simp only[Yd] at h1 h2;omega
section
variable {S:Type}
def goS (Y:S->Int->Option (S⊕S)):List Nat->S->Option (S⊕S)
 | [],s=>some (.inl s)
 | m::l,s=>(Y s (m:Int)).bind λr=>match r with | .inl s'=>goS Y l s' | .inr s'=>some (.inr s')
def QhX (Y:S->Int->Option (S⊕S)) (m:Nat) (l:List Nat) (s:S):goS Y (m::l) s=(Y s (m:Int)).bind λr=>match r with | .inl s'=>goS Y l s' | .inr s'=>some (.inr s'):=rfl
def Qtm (Y:S->Int->Option (S⊕S)):∀(a b:List Nat) (s:S),goS Y (a++b) s=(goS Y a s).bind λr=>match r with | .inl s'=>goS Y b s' | .inr s'=>some (.inr s')
 | [],b,s=>rfl
 | m::a,b,s=>by
  rw[Ys,QhX,QhX]
  cases h:Y s (m:Int) with
  | none=>rfl
  | some r=>
   simp only[Za]
   cases r with
   | inl s'=>exact Qtm Y a b s'
   | inr s'=>rfl
def QlV {ρ:Type} {Y:S->Int->Option (S⊕S)} (w:Int->Int) (n:Nat) (hw:∀k,k<n->w ((k:Int)+1)=((k+1:Nat):Int)) (F:Nat->List Nat) (o:S⊕S->ρ) (i:S->ρ) {body:Int×S->Option ((Int×S)⊕ρ)}
  (hb:∀k,k<n->∀s,body ((k:Int),s)=(goS Y (F k) s).bind λr=>match r with | .inl s'=>some (.inl (w ((k:Int)+1),s')) | .inr s'=>some (.inr (o (.inr s')))) (he:∀s,body ((n:Int),s)=some (.inr (o (.inl s)))) (s:S):
  Ql body ((0:Int),s)=(goS Y ((range n).flatMap F) s).map o:=by
 have key:∀m k s,k+m=n->Ql body ((k:Int),s)=(goS Y ((range' k m).flatMap F) s).map o:=by
  intro m
  induction m with
  | zero=>
   intro k s hk;have:k=n:=by omega
   subst this;rw[Qac,he];rfl
  | succ m ih=>
   intro k s hk;rw[Qac,hb k (by omega),range'_succ,flatMap_cons,Qtm]
   cases h:goS Y (F k) s with
   | none=>rfl
   | some r=>
    simp only[Za]
    cases r with
    | inr s'=>rfl
    | inl s'=>dsimp only;rw[hw k (by omega)];exact ih (k+1) s' (by omega)
 have:=key n 0 s (by omega);rw[range_eq_range'];exact this
def QkU (Y:S->Int->Option (S⊕S)) (p:Nat->Bool):∀(l:List Nat) (s:S),goS Y (l.filter p) s=goS (λs m=>if p m.toNat=true then Y s m else some (.inl s)) l s
 | [],s=>rfl
 | m::l,s=>by
  rw[filter_cons,QhX,Zv]
  cases hp:p m with
  | true=>
   rw[Zc rfl,Zc rfl,QhX];congr 1
   funext r
   cases r with
   | inl s'=>exact QkU Y p l s'
   | inr s'=>rfl
  | false=>rw[Zd (by simp),Zd (by simp)];simp only[Za];exact QkU Y p l s
def QCk (Y:S->Int->Option (S⊕S)):∀(l:List Nat) (s:S),goS Y (l.flatMap λm=>[m]) s=goS Y l s:=λl s=>by rw[flatMap_singleton']
def Qtn {Y:S->Int->Option (S⊕S)} {n:Nat} (hn:n<=16) (s:S):Qfe Y s (n:Int)=goS Y (QdW n) s:=by
 have hp:2 ^ n<=2 ^ 16:=Nat.pow_le_pow_right (by omega) hn;have hsh:ishl .u64 (1:Int) (n:Int)=((2 ^ n:Nat):Int):=by
  have e:(2:Int) ^ n=((2 ^ n:Nat):Int):=by push_cast;rfl
  unfold ishl;rw[Zv,show u64.bits=64 from rfl,Nat.min_eq_left (by omega),Int.one_mul,e];exact u64w (Int.natCast_nonneg _) (by omega)
 unfold Qfe;rw[w64 (by omega) (by omega),hsh];refine (QlV (Y:=Y) i64.wrap (n+1) (λk hk=>Qw hk (by omega)) (λk=>(range (2 ^ n)).filter λm=>ones m==k) (λr=>r) (λs=>.inl s) (λk hk s=>?_) (λs=>by rw[Zd (by simp)]) s).trans ?_
 ·rw[Zc (decide_eq_true (by omega))];rw[show nn (n:Int)=some () by unfold nn;rw[Zc (by omega)]];simp only[Za];rw[QkU,<-QCk _ (range (2 ^ n))];rw[QlV (Y:=λs m=>if (ones m.toNat==k)=true then Y s m else some (.inl s)) u64.wrap (2 ^ n) (λk hk=>by rw[u64w (by omega) (by omega)];omega) (λm=>[m]) (λr=>r) (λs=>.inl s) (λm hm s=>?_) (λs=>by rw[Zd (by simp)]) s]
  ·cases goS (λs m=>if (ones m.toNat==k)=true then Y s m else some (.inl s)) ((range (2 ^ n)).flatMap λm=>[m]) s with
   | none=>rfl
   | some r=>cases r<;>rfl
  ·rw[Zc (decide_eq_true (Yb.2 hm)),Qtl (by omega)];simp only[Za,goS,Zv];have e:(((ones m:Nat):Int)==(k:Int))=(ones m==k):=by
    rw[ZY];simp;omega
   rw[e]
   cases (if (ones m==k)=true then Y s (m:Int) else some (.inl s)) with
   | none=>rfl
   | some r=>cases r<;>rfl
 ·unfold QdW;cases goS Y ((range (n+1)).flatMap λk=>(range (2 ^ n)).filter λm=>ones m==k) s<;>rfl
end
def Qoa {m k:Nat} (hm:m<2 ^ 64) (hk:k<=64):(iand .u64 (ishr .u64 (m:Int) (k:Int)) (1:Int)==(1:Int))=m.testBit k:=by have:=Qjr m k;rw[Qhj _ _ hk,show (1:Int)=((1:Nat):Int) from rfl,QhW (by omega) (by omega)];rw[ZY];unfold Nat.testBit;rw[Nat.and_comm 1];have h2:m>>>k&&& 1=m>>>k % 2:=Nat.and_one_is_mod _;rw[h2];simp only[Yd,bne_iff_ne,ne_eq];omega
def Qwr {p n:Int} (hp:I64 p):Ok (Qb6 p n) (λr=>0<=r/\(1<=n->r<n)/\(n<=0->r=0)):=by
 have hp':=hp;unfold I64 at hp';have key:∀q:Int,0<=q->Ok (if decide (n<1)=true then some 0 else (nz n).bind λ_=>some (Int.tmod q n)) (λr=>0<=r/\(1<=n->r<n)/\(n<=0->r=0)):=λq hq=>by
  refine Ok.ite (λh=>?_) (λh=>?_)
  ·have:n<1:=ZC h;exact Ok.mk ⟨ZO _,λh=>by omega,λ_=>rfl⟩
  ·have:¬n<1:=ZS h;rw[Qn5 (by omega)];exact Ok.mk ⟨Int.tmod_nonneg _ hq,λ_=>Int.tmod_lt_of_pos _ (by omega),λh=>by omega⟩
 unfold Qb6;refine Ok.bind (P:=λq=>0<=q) (Ok.ite (λh=>?_) (λh=>?_)) (λq hq=>key q hq)
 ·have:p<0:=ZC h;refine Ok.mk ?_;have e1:i64.wrap (p+1)=p+1:=w64 (by omega) (by omega);rw[e1,w64 (by omega) (by omega)];omega
 ·have:¬p<0:=ZS h;exact Ok.mk (by omega)
section
variable {β:Type} {Q:β->Prop}
def Ok.around {p n:Int} {f:Int->Option β} (hp:I64 p) (hn:1<=n) (k:∀r,0<=r->r<n->Ok (f r) Q):Ok ((Qb6 p n).bind f) Q:=(Qwr hp).bind λr h=>k r h.1 (h.2.1 hn)
def MOk (m:Qt):Prop:=∀x∈m.L,I64 x
def Qd4 {m:Qt} {n:Int} (hm:MOk m) (hn:1<=n):Ok (QD m n) (λr=>0<=r.1/\r.1<n/\MOk r.2):=by unfold QD QbG;refine Ok.bind (P:=λr=>0<=r/\r<n) (Ok.ite (λh=>Ok.mk ⟨ZO _,by omega⟩) (λh=>?_)) (λr hr=>Ok.mk ⟨hr.1,hr.2,hm⟩);simp only[Bool.or_eq_false_iff,ZK] at h;refine Ok.idx (by omega) (by omega) λv hv _=>?_;exact Ok.around (hm v hv) hn λr h0 h1=>Ok.mk ⟨h0,h1⟩
def Ok.take {m:Qt} {n:Int} {f:Int×Qt->Option β} (hm:MOk m) (hn:1<=n) (k:∀r m',0<=r->r<n->MOk m'->Ok (f (r,m')) Q):Ok ((QD m n).bind f) Q:=(Qd4 hm hn).bind λr h=>k r.1 r.2 h.1 h.2.1 h.2.2
end
def SN (s:Str):Prop:=s.length<=20/\s.head?≠some 122
def FN (f:Qc):Prop:=SN f.Xj/\SN f.Of/\SN f.Up
def FOk (f:Qc):Prop:=f.Words.length<=6/\f.Xf.length<=6/\FN f
def KOk (n:Nat) (k:Qg):Prop:=k.Xb.length<=n/\(∀f∈k.Xb,FOk f)/\SN k.Xj
def Qiu {l:List Qc} {name:Str} (hl:l.length<=1000):Ok (Qdi l name) (λr=>-1<=r/\r<l.length):=by
 unfold Qdi;refine Ok.bind (P:=λe=>match e with | .inl _=>True | .inr r=>0<=r/\r<l.length) (Ok.loop (λk s=>0<=s/\s+k=l.length) l.length ⟨by omega,by omega⟩ λk s hs=>?_) (λe he=>?_)
 ·refine Ok.ite (λh=>?_) (λh=>Ok.mk trivial);have h':s<l.length:=ZC h;refine Ok.idx hs.1 h' λv _ _=>Ok.ite (λ_=>Ok.mk ⟨hs.1,h'⟩) (λ_=>Ok.mk ?_);rw[w64 (by omega) (by omega)];exact⟨k - 1,by omega,by omega,by omega⟩
 ·rcases e with e | e
  ·exact Ok.mk ⟨by omega,by omega⟩
  ·exact Ok.mk ⟨by omega,he.2⟩
def QpA {k:Qg} (hl:k.Xb.length<=1000):Ok (QdG k) (λr=>-1<=r/\r<k.Xb.length):=by
 unfold QdG;refine Ok.bind (P:=λe=>match e with | .inl _=>True | .inr r=>0<=r/\r<k.Xb.length) (Ok.loop (λn s=>0<=s/\s+n=k.Xb.length) k.Xb.length ⟨by omega,by omega⟩ λn s hs=>?_) (λe he=>?_)
 ·refine Ok.ite (λh=>?_) (λh=>Ok.mk trivial);have h':s<k.Xb.length:=ZC h;refine Ok.idx hs.1 h' λv _ _=>Ok.ite (λ_=>Ok.mk ⟨hs.1,h'⟩) (λ_=>Ok.mk ?_);rw[w64 (by omega) (by omega)];exact⟨n - 1,by omega,by omega,by omega⟩
 ·rcases e with e | e
  ·exact Ok.mk ⟨by omega,by omega⟩
  ·exact Ok.mk ⟨by omega,he.2⟩
def Qri {m:Qt} (hm:MOk m):Ok (QaY m) (λr=>r.1.length<=2/\(∀f∈r.1,FOk f)/\MOk r.2):=by
 unfold QaY;refine Ok.take hm (by decide) λr m1 _ _ h1=>?_;refine Ok.ite (λ_=>?_) (λ_=>?_)
 ·refine Ok.take h1 (by decide) λr2 m2 _ _ h2=>Ok.take h2 (by decide) λr3 m3 _ _ h3=>Ok.mk ⟨by simp,by simp[FOk,FN,SN],h3⟩
 refine Ok.ite (λ_=>?_) (λ_=>?_)
 ·refine Ok.take h1 (by decide) λr2 m2 h20 h21 h2=>?_;have hr2:i64.wrap (1+r2)=1+r2:=w64 (by omega) (by omega);refine Ok.sub (by decide) (by dsimp only;rw[hr2];omega) (by dsimp only;rw[hr2];simp;omega) λw hw _=>?_;dsimp only at hw;rw[hr2] at hw;have hwl:1<=w.length/\w.length<=3:=by omega
  refine Ok.bind (P:=λr=>r.1.length=w.length/\MOk r.2) (Ok.loop (λk s=>0<=s.1/\s.1+k=w.length/\s.2.1.length=s.1/\MOk s.2.2) w.length ⟨ZO _,by simp,by simp,h2⟩ λk s hs=>?_) (λp hp=>?_)
  ·obtain⟨i,ws,m3⟩:=s;obtain⟨e1,e2,e3,e4⟩:=hs;dsimp only at e1 e2 e3 e4;refine Ok.ite (λh=>?_) (λh=>?_)
   ·have h':i<w.length:=ZC h;refine Ok.take e4 (by decide) λr4 m4 _ _ h4=>Ok.rm (by simp;omega) (Ok.mk ?_);dsimp only;rw[w64 (by omega) (by omega)];exact⟨k - 1,by omega,by omega,by omega,by simp;omega,h4⟩
   ·have h':¬i<w.length:=ZS h;exact Ok.mk ⟨by dsimp only;omega,e4⟩
  ·refine Ok.take hp.2 (by omega) λr4 m4 h40 h41 h4=>Ok.take h4 (by decide) λr5 m5 _ _ h5=>?_;refine Ok.setAt h40 (by dsimp only;omega) (Ok.mk ⟨by simp,?_,h5⟩);intro f hf;rw[Zh] at hf;subst hf;exact⟨by dsimp only;omega,by simp only[Yz];omega,by simp[FN,SN]⟩
 refine Ok.ite (λ_=>?_) (λ_=>?_)
 ·refine Ok.take h1 (by decide) λr2 m2 _ _ h2=>Ok.take h2 (by decide) λr3 m3 _ _ h3=>Ok.take h3 (by decide) λr4 m4 _ _ h4=>Ok.take h4 (by decide) λr5 m5 _ _ h5=>Ok.mk ⟨by simp,by simp[FOk,FN,SN],h5⟩
 refine Ok.ite (λ_=>?_) (λ_=>?_)
 ·refine Ok.take h1 (by decide) λr2 m2 _ _ h2=>Ok.take h2 (by decide) λr3 m3 _ _ h3=>Ok.mk ⟨by simp,by simp[FOk,FN,SN],h3⟩
 refine Ok.ite (λ_=>?_) (λ_=>?_)
 ·refine Ok.take h1 (by decide) λr2 m2 _ _ h2=>Ok.take h2 (by decide) λr3 m3 _ _ h3=>Ok.take h3 (by decide) λr4 m4 _ _ h4=>Ok.take h4 (by decide) λr5 m5 _ _ h5=>Ok.mk ⟨by simp,by simp[FOk,FN,SN],h5⟩
 ·exact Ok.mk ⟨by simp,by simp,h1⟩
def GOk (n:Nat) (k:Qg):Prop:=KOk n k/\1<=k.Xj.length/\k.Xj.length<=6
def GOk.Xp {a b:Nat} {k:Qg} (h:GOk a k) (hab:a<=b):GOk b k:=⟨⟨by have:=h.1.1;omega,h.1.2⟩,h.2⟩
def fok {n o u:Str} {k lo hi:Int} (h1:SN n) (h2:SN o) (h3:SN u):FOk ⟨n,o,u,k,lo,hi,[],[]⟩:=⟨by simp,by simp,h1,h2,h3⟩
def Qob:SN []:=by simp[SN]
def QdL {c:Bool} {a b:Qt} (h:c=true->MOk a) (k:MOk b):MOk (bif c==true then a else b):=by
 cases c with
 | true=>exact h rfl
 | false=>exact k
set_option maxHeartbeats 1000000 in
def QCl {m:Qt} {l:List Qg} {N:Nat} (hm:MOk m) (hl:l.length<=2) (hN:N<=20) (hk:∀k∈l,GOk N k):
  Ok (Qbm m l) (λr=>GOk 9 r.1/\MOk r.2.1/\r.2.2.length=l.length/\∀k∈r.2.2,GOk (N+1) k):=by
 unfold Qbm;refine Ok.take hm (by decide) λr1 m1 a1 b1 h1=>?_;refine Ok.idx a1 (by simpa using b1) λlo _ _=>?_;refine Ok.idx (by omega) (by simp;omega) λname hname _=>?_;have hn:1<=name.length/\name.length<=6:=by simp only[Zo,Zw,ZI] at hname;rcases hname with rfl | rfl | rfl<;>decide
 have hsn:SN name:=by simp only[Zo,Zw,ZI] at hname;rcases hname with rfl | rfl | rfl<;>simp[SN]
 refine Ok.take h1 (by decide) λr2 m2 _ _ h2=>?_;refine Ok.take h2 (by decide) λr3 m3 a3 b3 h3=>?_;refine Ok.idx a3 (by simpa using b3) λid0 _ _=>?_;refine Ok.rm (by simp) ?_;refine Ok.bind (P:=λp:Qt×List Qc×List Qg=>MOk p.1/\p.2.1.length<=4/\(∀f∈p.2.1,FOk f)/\p.2.2.length=l.length/\∀k∈p.2.2,GOk (N+1) k)
  (Ok.ite (λhpos=>?_) (λ_=>Ok.mk ⟨h3,by simp,by simp[FOk,FN,SN],rfl,λk h=>(hk k h).Xp (by omega)⟩)) λp hp=>?_
 ·have hpos':(0:Int)<l.length:=ZC hpos;refine Ok.take h3 (by omega) λto m4 a4 b4 h4=>?_;refine Ok.idx a4 b4 λkt hkt ekt=>?_;refine Ok.take h4 (by decide) λr5 m5 a5 b5 h5=>?_;refine Ok.idx a5 (by simpa using b5) λhi _ _=>?_;refine Ok.take h5 (by decide) λr6 m6 _ _ h6=>?_;have skt:=(hk kt hkt).1.2.2;refine Ok.bind (P:=FOk) (Ok.ite (λ_=>Ok.mk (fok (by simp[SN]) skt Qob)) (λ_=>Ok.mk (fok (by simp[SN]) skt Qob))) λf hf=>?_;refine Ok.rm (by simp) ?_;refine Ok.idx a4 b4 λkt1 hkt1 _=>?_;refine (QpA (by have:=(hk _ hkt1).1.1;omega)).bind λc hc=>?_;refine Ok.opt (P:=λr:Int×Qt=>MOk r.2) (λh=>(Qd4 h6 (by decide)).Xp λr h=>h.2.2) λr7 h7=>?_;have m7:MOk (bif (decide (c>=(0:Int)))==true then r7.2 else m6):=QdL (λh=>h7 (by rw[h];rfl)) h6;refine Ok.bind (P:=λp:List Qc=>p.length<=3/\∀f∈p,FOk f) (Ok.ite (λh=>?_) (λ_=>Ok.mk ⟨by simp,?_⟩)) λfs hfs=>?_
  ·simp only[Zf,Zk] at h;refine Ok.idx a4 b4 λkt2 hkt2 ekt2=>?_;have e:kt2=kt1:=by simp_all
   subst e;refine Ok.idx h.1 hc.2 λg hg _=>Ok.rm (by simp) (Ok.mk ⟨by simp,?_⟩);have sg:=((hk _ hkt1).1.2.1 g hg).2.2.1;intro x hx;simp only[Yf,Ys,Zo,Zw,ZI] at hx;rcases hx with rfl | rfl | rfl
   ·simp[FOk,FN,SN]
   ·exact hf
   ·exact fok (by simp[SN]) sg (by simp[SN])
  ·intro x hx;simp only[Yf,Ys,Zo,Zw,ZI] at hx;rcases hx with rfl | rfl
   ·simp[FOk,FN,SN]
   ·exact hf
  ·refine Ok.idx a4 b4 λkt3 hkt3 ekt3=>?_;refine (Qiu (by have:=(hk _ hkt3).1.1;omega)).bind λtot htot=>?_;refine Ok.opt (P:=λr:Int×Qt=>MOk r.2) (λh=>(Qd4 m7 (by decide)).Xp λr h=>h.2.2) λr8 h8=>?_;have m8:MOk (bif (decide (tot<(0:Int)))==true then r8.2 else (bif (decide (c>=(0:Int)))==true then r7.2 else m6)):=QdL (λh=>h8 (by rw[h];rfl)) m7;refine Ok.bind (P:=λp:Qt×List Qc×List Qg=>MOk p.1/\p.2.1.length<=4/\(∀f∈p.2.1,FOk f)/\p.2.2.length=l.length/\∀k∈p.2.2,GOk (N+1) k)
    (Ok.ite (λh=>?_) (λ_=>Ok.mk ⟨m8,by have:=hfs.1;dsimp only;omega,hfs.2,rfl,λk h=>(hk k h).Xp (by omega)⟩)) λp hp=>Ok.mk hp
   refine Ok.take m8 (by decide) λr9 m9 _ _ h9=>Ok.take h9 (by decide) λr10 m10 _ _ h10=>?_;refine Ok.rm (by have:=hfs.1;simp;omega) ?_;refine Ok.idx a4 b4 λkt4 hkt4 ekt4=>?_;have hk4:=hk _ hkt4;have hk41:=hk4.1.1;refine Ok.rm (by simp;omega) (Ok.rm (by simp;omega) ?_);refine Ok.idx a4 b4 λkt5 hkt5 ekt5=>?_;have e:kt5=kt4:=by simp_all
   subst e;refine Ok.setAt a4 b4 (Ok.mk ⟨h10,?_,?_,?_,?_⟩)
   ·have:=hfs.1;simp;omega
   ·intro x hx;rcases Zs.1 hx with hx | hx
    ·exact hfs.2 x hx
    ·rw[Zh] at hx;subst hx;simp[FOk,FN,SN]
   ·simp
   ·intro k hkm;rcases mem_or_eq_of_mem_set hkm with hkm | rfl
    ·exact (hk k hkm).Xp (by omega)
    ·refine⟨⟨?_,?_,hk4.1.2.2⟩,hk4.2⟩
     ·simp;omega
     ·intro x hx;rcases Zs.1 hx with hx | hx
      ·exact hk4.1.2.1 x (by simpa using hx)
      ·rw[Zh] at hx;subst hx;exact fok (by simp[SN]) hsn Qob
 ·obtain⟨q1,q2,q3,q4,q5⟩:=hp;refine Ok.opt (P:=λr:Int×Qt=>MOk r.2) (λh=>(Qd4 q1 (by decide)).Xp λr h=>h.2.2) λr11 h11=>?_;have m11:MOk (bif (decide ((l.length:Int)>(1:Int)))==true then r11.2 else p.1):=QdL (λh=>h11 (by rw[h];rfl)) q1;refine Ok.bind (P:=λp:List Qc=>p.length<=5/\∀f∈p,FOk f) (Ok.ite (λh=>?_) (λ_=>Ok.mk ⟨by omega,q3⟩)) λfs hfs=>?_
  ·simp only[Zf,Zk] at h;refine Ok.idx (by decide) (by omega) λk0 hk0 _=>Ok.rm (by simp;omega) (Ok.mk ⟨by simp;omega,?_⟩);intro x hx;rcases Zs.1 hx with hx | hx
   ·exact q3 x hx
   ·rw[Zh] at hx;subst hx;exact fok (by simp[SN]) (q5 k0 hk0).1.2.2 Qob
  ·refine (Qri m11).bind λr12 h12=>?_;obtain⟨c1,c2,c3⟩:=h12;obtain⟨f1,f2⟩:=hfs;refine Ok.rm (by omega) ?_;refine Ok.take c3 (by decide) λr13 m13 _ _ h13=>?_;have all7:∀f∈fs++r12.1,FOk f:=λx hx=>(Zs.1 hx).elim (f2 x) (c2 x);have len7:(fs++r12.1).length<=7:=by simp;omega
   refine Ok.bind (P:=λp:Qt×List Qc=>MOk p.1/\p.2.length<=9/\∀f∈p.2,FOk f) (Ok.ite (λh=>?_) (λ_=>Ok.mk ⟨h13,by dsimp only;omega,all7⟩)) λp52 hp52=>Ok.mk ⟨⟨⟨hp52.2.1,hp52.2.2,hsn⟩,hn⟩,hp52.1,q4,q5⟩;refine (Qri h13).bind λr14 h14=>?_;obtain⟨d1,d2,d3⟩:=h14;refine Ok.opt (P:=λ_=>True) (λh=>?_) λg _=>?_
   ·have h':(r14.1.length:Int)>0:=by simpa using h
    exact (Ok.idx (by decide) (by omega) λv _ _=>Ok.mk trivial:Ok ((idx r14.1 0).bind some) _).Xp (λ_ h=>h) |> λh=>by simpa using h
   refine Ok.opt (P:=λ_=>True) (λh=>(Qiu (by omega)).Xp λ_ _=>trivial) λg2 _=>?_;refine Ok.bind (P:=λp:List Qc=>p.length<=9/\∀f∈p,FOk f) (Ok.ite (λh=>Ok.rm (by omega) (Ok.mk ⟨by rw[Ze];omega,λx hx=>(Zs.1 hx).elim (all7 x) (d2 x)⟩)) (λ_=>Ok.mk ⟨by omega,all7⟩)) λp64 hp64=>Ok.mk ⟨d3,hp64.1,hp64.2⟩
def RN (r:Qs):Prop:=SN r.Xj/\SN r.Xi/\SN r.A/\SN r.B
def Qrj {a r:Str} (h1:1<=a.length) (h2:a.length<=10) (h:a.head?≠some 122) (hr:r.length=1):SN (a++r):=by
 refine⟨by rw[Ze];omega,?_⟩
 cases a with
 | nil=>simp at h1
 | cons c a=>simpa using h
def QCm {m:Qt} {k:Qg} (hm:MOk m) (hk:GOk 12 k):Ok (Qbn m k) (λr=>RN r.1/\MOk r.2.2):=by unfold Qbn;obtain⟨⟨k1,k2,ks⟩,k3,k4⟩:=hk;refine (Qiu (by omega)).bind λa ha=>(Qiu (by omega)).bind λb hb=>?_;refine Ok.opt (P:=λr:Int×Qt=>MOk r.2) (λh=>(Qd4 hm (by decide)).Xp λr h=>h.2.2) λr1 h1=>?_;have m1:MOk (bif (decide (a>=(0:Int)))==true then r1.2 else m):=QdL (λh=>h1 (by rw[h];rfl)) hm;have nm:∀{β:Type} {Q:β->Prop} {f:Str->Option β},(∀r:Str,r.length=1->Ok (f r) Q)->Ok ((sub k.Xj 0 1).bind f) Q:=λh=>Ok.sub (by decide) (by decide) (by omega) λr hr _=>h r (by simpa using hr);refine Ok.ite (λ_=>nm λr hr=>Ok.cat (by simp;omega) (Ok.take m1 (by decide) λ_ m2 _ _ h2=>Ok.mk ⟨⟨Qrj (by simp) (by simp) (by simp) hr,ks,by simp[SN],by simp[SN]⟩,h2⟩)) (λ_=>?_);refine Ok.ite (λ_=>Ok.mk ⟨by simp[RN,SN],m1⟩) (λh=>?_);have hb0:¬b<0:=ZS h;refine Ok.idx (by omega) hb.2 λf _ _=>Ok.take m1 (by decide) λr2 m2 _ _ h2=>?_;refine Ok.ite (λ_=>nm λr hr=>Ok.cat (by simp;omega) (Ok.take h2 (by decide) λ_ m2 _ _ h2=>Ok.mk ⟨⟨Qrj (by simp) (by simp) (by simp) hr,ks,by simp[SN],by simp[SN]⟩,h2⟩)) (λ_=>nm λr hr=>Ok.cat (by simp;omega) (Ok.take h2 (by decide) λ_ m2 _ _ h2=>Ok.mk ⟨⟨Qrj (by simp) (by simp) (by simp) hr,ks,by simp[SN],by simp[SN]⟩,h2⟩))
def SOk (n:Nat) (x:Qb):Prop:=x.Xa.length<=3/\(∀k∈x.Xa,KOk 14 k)/\x.Xd.length<=1/\(∀m∈x.Xd,m.Xe.length<=6/\m.Xg.length<=8/\SN m.Xj)/\x.Xc.length<=n/\∀r∈x.Xc,RN r
def Qws {l:List Int} (hl:∀x∈l,I64 x):Ok (Qb7 l) (SOk 2):=by
 unfold Qb7;refine Ok.sub (by decide) (by unfold imin;split<;>omega) (by unfold imin;split<;>omega) λw _ hw=>?_;have h0:MOk (Qt.mk w 0):=λx hx=>hl x (hw x hx);refine Ok.take h0 (by decide) λv m1 _ _ h1=>Ok.take h1 (by decide) λn m2 a2 b2 h2=>?_;have en:i64.wrap (1+n)=1+n:=w64 (by omega) (by omega);refine Ok.bind (P:=λp:List Qg×Qt=>p.1.length=1+n/\(∀k∈p.1,GOk 12 k)/\MOk p.2)
  (Ok.loop (λk s=>0<=s.1/\s.1+k=1+n/\s.2.1.length=s.1/\(∀q∈s.2.1,GOk (9+s.1.toNat) q)/\MOk s.2.2) (1+n).toNat ⟨ZO _,by dsimp only;omega,by simp,by simp,h2⟩ λk s hs=>?_) (λp hp=>?_)
 ·obtain⟨i,ks,m3⟩:=s;obtain⟨e1,e2,e3,e4,e5⟩:=hs;dsimp only at e1 e2 e3 e4 e5;refine Ok.ite (λh=>?_) (λh=>?_)
  ·have h':i<1+n:=by have:=ZC h;rwa [en] at this
   refine (QCl (N:=9+i.toNat) e5 (by omega) (by omega) e4).bind λr hr=>?_;obtain⟨r1,r2,r3,r4⟩:=hr;refine Ok.rm (by simp;omega) (Ok.mk ?_);have ei:i64.wrap (i+1)=i+1:=w64 (by omega) (by omega);refine⟨k - 1,by omega,?_⟩;dsimp only;rw[ei];refine⟨by omega,by omega,by simp;omega,λq hq=>?_,r2⟩;rcases Zs.1 hq with hq | hq
   ·exact (r4 q hq).Xp (by omega)
   ·rw[Zh] at hq;subst hq;exact r1.Xp (by omega)
  ·have h':¬i<1+n:=by have:=ZS h;rwa [en] at this
   refine Ok.mk ⟨by dsimp only;omega,λq hq=>(e4 q hq).Xp (by omega),e5⟩
 obtain⟨p1,p2,p3⟩:=hp;refine Ok.take p3 (by decide) λt m4 a4 b4 h4=>?_;have et:i64.wrap (2+t)=2+t:=w64 (by omega) (by omega);refine Ok.sub (by decide) (by dsimp only;rw[et];omega) (by dsimp only;rw[et];simp;omega) λst hst _=>?_;dsimp only at hst;rw[et] at hst;have hsl:2<=st.length/\st.length<=4:=by omega
 refine Ok.bind (P:=λp:List QO=>p.length<=3) (Ok.loop (λk s=>0<=s.1/\s.1+1+k=st.length/\s.2.length=s.1) (st.length - 1) ⟨ZO _,by dsimp only;omega,by simp⟩ λk s hs=>?_) (λmv hmv=>?_)
 ·obtain⟨i,ms⟩:=s;obtain⟨e1,e2,e3⟩:=hs;dsimp only at e1 e2 e3;have ei:i64.wrap (i+1)=i+1:=w64 (by omega) (by omega);refine Ok.ite (λh=>?_) (λh=>?_)
  ·have h':i+1<st.length:=by have:=ZC h;rwa [ei] at this
   refine Ok.rm (by simp;omega) (Ok.mk ⟨k - 1,by omega,?_⟩);dsimp only;rw[ei];exact⟨by omega,by omega,by simp;omega⟩
  ·have h':¬i+1<st.length:=by have:=ZS h;rwa [ei] at this
   exact Ok.mk (by dsimp only;omega)
 refine Ok.take h4 (by decide) λr5 m5 _ _ h5=>?_;refine Ok.bind (P:=λp:List QO=>p.length<=4) (Ok.ite (λ_=>Ok.rm (by simp;omega) (Ok.mk (by simp;omega))) (λ_=>Ok.mk (by omega))) λmv2 hmv2=>?_;refine Ok.take h5 (by decide) λr6 m6 _ _ h6=>?_;refine Ok.bind (P:=λp:List QO=>p.length<=5) (Ok.ite (λ_=>Ok.rm (by simp;omega) (Ok.mk (by simp;omega))) (λ_=>Ok.mk (by omega))) λmv3 hmv3=>?_;refine Ok.rm (by simp) ?_;refine Ok.bind (P:=λp:List Qs=>p.length<=2/\∀r∈p,RN r) (Ok.loop (λk s=>0<=s.1/\s.1+k=1+n/\(s.2.1.length<=2/\∀r∈s.2.1,RN r)/\MOk s.2.2) (1+n).toNat ⟨ZO _,by dsimp only;omega,by simp,h6⟩ λk s hs=>?_) (λrs hrs=>?_)
 ·obtain⟨i,rs,m7⟩:=s;obtain⟨e1,e2,e3,e4⟩:=hs;dsimp only at e1 e2 e3 e4;refine Ok.ite (λh=>?_) (λh=>Ok.mk e3);simp only[Zf,Zk,en] at h;refine Ok.idx e1 (by omega) λq hq _=>(QCm e4 (p2 q hq)).bind λr hr=>?_;refine Ok.bind (P:=λp:List Qs=>p.length<=2/\∀r∈p,RN r) (Ok.ite (λ_=>Ok.rm (by simp;omega) (Ok.mk ⟨by simp;omega,λy hy=>(Zs.1 hy).elim (e3.2 y) λhy=>by rw[Zh] at hy;subst hy;exact hr.1⟩)) (λ_=>Ok.mk e3)) λrs2 hrs2=>Ok.mk ⟨k - 1,by omega,?_⟩;dsimp only;rw[w64 (n:=i+1) (by omega) (by omega)];exact⟨by omega,by omega,hrs2,hr.2⟩
 ·refine Ok.mk ⟨by dsimp only;omega,λq hq=>⟨by have:=(p2 q hq).1.1;omega,(p2 q hq).1.2⟩,by simp,?_,hrs⟩;intro q hq;simp only[Yf,Zh] at hq;subst hq;exact⟨by dsimp only;omega,by dsimp only;omega,by simp[SN]⟩
def FZ (f:Qc):Prop:=f.Words.length<=7/\f.Xf.length<=7/\FN f
def KA (l:List Qg):Prop:=l.length<=3/\∀k∈l,k.Xb.length<=14/\(∀f∈k.Xb,FZ f)/\SN k.Xj
def LA (l:List QA):Prop:=l.length<=1/\∀m∈l,m.Xe.length<=7/\m.Xg.length<=9/\SN m.Xj
def RA (l:List Qs):Prop:=l.length<=4/\∀r∈l,RN r
def Sz (x:Qb):Prop:=KA x.Xa/\LA x.Xd/\RA x.Xc
def FOk.z {f:Qc} (h:FOk f):FZ f:=⟨by have:=h.1;omega,by have:=h.2.1;omega,h.2.2⟩
def SOk.sz {n:Nat} {x:Qb} (h:SOk n x) (hn:n<=4):Sz x:=⟨⟨h.1,λk hk=>⟨(h.2.1 k hk).1,λf hf=>((h.2.1 k hk).2.1 f hf).z,(h.2.1 k hk).2.2⟩⟩,⟨h.2.2.1,λm hm=>⟨by have:=(h.2.2.2.1 m hm).1;omega,by have:=(h.2.2.2.1 m hm).2.1;omega,(h.2.2.2.1 m hm).2.2⟩⟩,Yv h.2.2.2.2.1 hn,h.2.2.2.2.2⟩
def QaJ {α:Type} (s:List α) (p:α->Bool):Int:=match s.findIdx? p with | some k=>(k:Int) | none=>-1
def Qc8 {α:Type} (s:List α) (p:α->Bool):-1<=QaJ s p/\QaJ s p<s.length:=by
 unfold QaJ
 cases h:s.findIdx? p with
 | none=>exact⟨by decide,by show (-1:Int)<_;omega⟩
 | some k=>have:=(ZD.1 h).1;exact⟨by show (-1:Int)<=(k:Int);omega,by show (k:Int)<_;omega⟩
def Qcw {α:Type} (s:List α) (p:α->Bool) {body:Int->Option (Int⊕(Unit⊕Int))}
  (hb:∀k (h:k<s.length),body (k:Int)=if p s[k]=true then some (.inr (.inr (k:Int))) else some (.inl ((k+1:Nat):Int))) (he:body (s.length:Int)=some (.inr (.inl ()))):
  Ql body (0:Int)=some (match s.findIdx? p with | some k=>.inr (k:Int) | none=>.inl ()):=by
 obtain⟨q,hq⟩:∃q:Nat->Bool,∀k (h:k<s.length),q k=p s[k]:=⟨λk=>if h:k<s.length then p s[k] else false,λk h=>dif_pos h⟩
 rcases QhE (ρ:=Unit⊕Int) s.length q (.inl ()) (λk=>.inr (k:Int))
  (λk hk hp=>by rw[hb k hk,Zd (by rw[<-hq k hk,hp];decide)]) (λk hk hp=>by rw[hb k hk,Zc (by rw[<-hq k hk,hp])]) he with⟨k,hk,hp,hj,e⟩ | ⟨hp,e⟩
 ·have:s.findIdx? p=some k:=by
   rw[ZD];refine⟨hk,by rw[<-hq k hk,hp],λj hj'=>?_⟩;have:=hj j hj';rw[hq j (by omega)] at this;simp[this]
  rw[e,this]
 ·have:s.findIdx? p=none:=by
   rw[findIdx?_eq_none_iff];intro x hx;obtain⟨k,hk,rfl⟩:=Ye hx;have:=hp k hk
   rwa [hq k hk] at this
  rw[e,this]
section
variable {p:Qg->Bool} {q:Qc->Bool}
def QpB {s:List Qg} {f:Qg->Option Bool} (hs:s.length<=1000000) (hf:∀x∈s,f x=some (p x)):QbD s f=some (QaJ s p):=by
 unfold QbD;rw[Qcw s p (λk hk=>?_) ?_]
 ·unfold QaJ;cases s.findIdx? p<;>rfl
 ·rw[Zd (by simp)]
 ·rw[Zc (by simpa using hk),QG hk];show (f s[k]).bind _=_;rw[hf _ (Zm hk),Qw hk (by omega)];rfl
def Qoc {s:List Qc} {f:Qc->Option Bool} (hs:s.length<=1000000) (hf:∀x∈s,f x=some (q x)):Qbv s f=some (QaJ s q):=by
 unfold Qbv;rw[Qcw s q (λk hk=>?_) ?_]
 ·unfold QaJ;cases s.findIdx? q<;>rfl
 ·rw[Zd (by simp)]
 ·rw[Zc (by simpa using hk),QG hk];show (f s[k]).bind _=_;rw[hf _ (Zm hk),Qw hk (by omega)];rfl
end
def QQ (x:Qb) (n:Str):Int:=QaJ x.Xa λk=>k.Xj==n
def Q2 (k:Qg) (n:Str):Int:=QaJ k.Xb λf=>f.Xj==n
def Qc9 {x:Qb} {n:Str} (hx:x.Xa.length<=1000000):Qb2 x n=some (QQ x n):=by unfold Qb2;rw[QpB (f:=λx0=>QgK x0 n) (p:=λk=>k.Xj==n) hx (λk _=>rfl)];rfl
def Qcq {k:Qg} {n:Str} (hx:k.Xb.length<=1000000):QbB k n=some (Q2 k n):=by unfold QbB;rw[Qoc (f:=λx0=>Qga x0 n) (q:=λk=>k.Xj==n) hx (λk _=>rfl)];rfl
def field? (x:Qb) (k j:Int):Option Qc:=if 0<=k/\0<=j then x.Xa[k.toNat]?.bind λq=>q.Xb[j.toNat]? else none
def QcI:Qc:=Qc.mk [] [] [] 0 0 0 [] []
def QbN {x:Qb} {k j:Int} {f:Qc} (h:field? x k j=some f):∃q,0<=k/\0<=j/\idx x.Xa k=some q/\idx q.Xb j=some f/\q∈x.Xa/\k<x.Xa.length/\j<q.Xb.length:=by
 unfold field? at h;split at h
 ·rename_i hk;obtain⟨q,h1,h2⟩:=Option.bind_eq_some_iff.1 h;refine⟨q,hk.1,hk.2,by rw[QgN _ hk.1,h1],by rw[QgN _ hk.2,h2],Zr h1,?_,?_⟩
  ·have:=(Zg.1 h1).1;omega
  ·have:=(Zg.1 h2).1;omega
 ·cases h
def Qfz {x:Qb} {k j:Int} {q:Qg} {f:Qc} (hk:0<=k) (hj:0<=j) (h1:idx x.Xa k=some q) (h2:idx q.Xb j=some f):field? x k j=some f:=by rw[QgN _ hk] at h1;rw[QgN _ hj] at h2;unfold field?;rw[Zc ⟨hk,hj⟩,h1];exact h2
def QcC {α:Type} {l:List α} {i:Int} (h0:0<=i) (h1:i<l.length):∃v,idx l i=some v/\v∈l:=by
 have hlt:i.toNat<l.length:=by omega
 exact⟨l[i.toNat],by rw[QgN l h0,Zb hlt],Zm hlt⟩
def QkV (x:Qb) (k j:Int):Qdk x k j=some (match field? x k j with | some f=>(f,true) | none=>(QcI,false)):=by
 unfold Qdk;by_cases hc:(0<=k/\k<x.Xa.length)/\0<=j
 ·obtain⟨⟨h1,h2⟩,h3⟩:=hc;obtain⟨q,hq,_⟩:=QcC h1 h2;have c:((decide (k<0)||decide (k>=(x.Xa.length:Int)))||decide (j<0))=false:=by simp;omega
  rw[c,hq];show (if (false||decide (j>=(q.Xb.length:Int)))=true then _ else _)=_;by_cases h4:j<q.Xb.length
  ·obtain⟨f,hf,_⟩:=QcC h3 h4;rw[Zd (by simp;omega),Qfz h1 h3 hq hf];show (idx q.Xb j).bind _=_;rw[hf];rfl
  ·rw[Zc (by simp;omega)];have:field? x k j=none:=by
    cases h:field? x k j with
    | none=>rfl
    | some f=>obtain⟨q',_,_,e1,e2,_,_,e3⟩:=QbN h;rw[hq] at e1;cases e1;exact (h4 e3).elim
   rw[this];rfl
 ·have c:((decide (k<0)||decide (k>=(x.Xa.length:Int)))||decide (j<0))=true:=by simp;omega
  rw[c];have:field? x k j=none:=by
   cases h:field? x k j with
   | none=>rfl
   | some f=>obtain⟨q',e1,e2,_,_,_,e3,_⟩:=QbN h;exact (hc ⟨⟨e1,e3⟩,e2⟩).elim
  rw[this];rfl
def Few (x:Qb):Prop:=x.Xa.length<=1000/\∀k∈x.Xa,k.Xb.length<=1000
def Sz.few {x:Qb} (h:Sz x):Few x:=⟨by have:=h.1.1;omega,λk hk=>by have:=(h.1.2 k hk).1;omega⟩
def QgO (x:Qb) (k:Int) (g:Qc):Int:=if QQ x g.Of<k then QQ x g.Of else -1
def upIx (x:Qb) (k j:Int):Int:=
 match field? x k j with
 | none=>-1
 | some f=>
  if f.Xi=7\/f.Xi=8 then
   match idx x.Xa k with
   | none=>-1
   | some q=>if Q2 q f.Up<j then (match field? x k (Q2 q f.Up) with | some g=>if g.Xi=1 then QgO x k g else -1 | none=>-1) else -1
  else if f.Xi=1 then QgO x k f else -1
def Qto {x:Qb} {k j:Int} {g:Qc} {self:Qb->Int->Int->Option Int} (hx:Few x) (h:field? x k j=some g) (hg:g.Xi=1):QdZ self x k j=some (QgO x k g):=by
 unfold QdZ;rw[QkV,h];simp only[Za,Bool.not_true,hg];rw[Zd (by decide),Zd (by decide),Zd (by decide),Qc9 (by have:=hx.1;omega)];simp only[Za,QgO];by_cases hl:QQ x g.Of<k
 ·rw[Zc (by simpa using hl),Zc hl]
 ·rw[Zd (by simpa using hl),Zd hl]
def upS_is {x:Qb} {k j:Int} {self:Qb->Int->Int->Option Int} (hx:Few x) (hs:∀u g,field? x k u=some g->g.Xi=1->self x k u=some (QgO x k g)):QdZ self x k j=some (upIx x k j):=by
 cases hf:field? x k j with
 | none=>unfold QdZ upIx;rw[QkV,hf];rfl
 | some f=>
  by_cases h1:f.Xi=1
  ·rw[Qto hx hf h1];unfold upIx;rw[hf];simp[h1]
  unfold QdZ upIx;rw[QkV,hf];simp only[Za,Bool.not_true];rw[Zd (by decide)];by_cases c:f.Xi=7\/f.Xi=8
  ·obtain⟨q,hk,hj,hq,hqf,hqm,_,_⟩:=QbN hf;rw[Zc (by simpa using c),Zc c,hq];simp only[Za];rw[Qcq (by have:=hx.2 q hqm;omega)];simp only[Za];rw[QkV];simp only[Za]
   cases hg:field? x k (Q2 q f.Up) with
   | none=>simp
   | some g=>
    simp only;by_cases hu:Q2 q f.Up<j
    ·by_cases hg1:g.Xi=1
     ·rw[Zc (by simp[hu,hg1]),hs _ g hg hg1,Zc hu,Zc hg1];rfl
     ·rw[Zd (by simp[hg1]),Zc hu,Zd hg1]
    ·rw[Zd (by simp[hu]),Zd hu]
  ·rw[Zd (by simpa using c),Zd c,Zc (by simpa using h1),Zd h1]
def QhF {x:Qb} {k j:Int} (hx:Few x):QeF x k j=some (upIx x k j):=by unfold QeF;exact upS_is hx λu g h hg=>Qto hx h hg
def QpC (p:Nat->Bool) (k:Nat):((range (k+1)).filter p).map Int.ofNat=if p k=true then ((range k).filter p).map Int.ofNat++[(k:Int)] else ((range k).filter p).map Int.ofNat:=by
 rw[Yl,filter_append,ZM];by_cases h:p k=true
 ·rw[Zc h];simp[h]
 ·rw[Zd h];simp[h]
def Qrk (p:Nat->Bool) (k:Nat):(((range k).filter p).map Int.ofNat).length<=k:=by rw[Zz];have:=length_filter_le p (range k);simpa using this
def QgC (x:Qb) (o k:Int) (nm:Str) (fs:List Qc) (i:Nat):Bool:=match fs[i]? with | some g=>g.Xi==7&&g.Of==nm&&upIx x o (i:Int)==k | none=>false
def shl (x:Qb) (o k:Int) (nm:Str):List Int:=match idx x.Xa o with | some q=>((range q.Xb.length).filter (QgC x o k nm q.Xb)).map Int.ofNat | none=>[]
def Qia (x:Qb) (k:Int) (f:Qc):Int×List Int:=if f.Xi≠6\/QQ x f.Of<=k then (-1,[]) else (QQ x f.Of,shl x (QQ x f.Of) k f.Xj)
def Qiv (x:Qb) (n:Str):-1<=QQ x n/\QQ x n<x.Xa.length:=Qc8 _ _
def Qwt {x:Qb} {k:Int} {f:Qc} (hx:Few x) (hk:0<=k):Qfd x k f=some (Qia x k f):=by
 unfold Qfd;rw[Qc9 (by have:=hx.1;omega)];simp only[Za];unfold Qia;by_cases c:f.Xi≠6\/QQ x f.Of<=k
 ·rw[Zc (by simpa using c),Zc c]
 rw[Zd (by simpa using c),Zd c];have c':k<QQ x f.Of:=by
  rcases Int.lt_or_le k (QQ x f.Of) with h | h
  ·exact h
  ·exact (c (.inr h)).elim
 obtain⟨q,hq,hqm⟩:=QcC (l:=x.Xa) (i:=QQ x f.Of) (by omega) (Qiv x f.Of).2;have hl:=hx.2 q hqm;rw[hq];simp only[Za];refine QdK q.Xb.length (λn=>((n:Int),((range n).filter (QgC x (QQ x f.Of) k f.Xj q.Xb)).map Int.ofNat)) _ rfl (λn hn=>?_) (Zd (by simp)) ?_
 ·rw[Zc (by simpa using hn),QG hn];simp only[Za];rw[QhF hx];have e:QgC x (QQ x f.Of) k f.Xj q.Xb n=(q.Xb[n].Xi==7&&q.Xb[n].Of==f.Xj&&upIx x (QQ x f.Of) (n:Int)==k):=by
   unfold QgC;rw[Zb hn]
  have hle:=Qrk (QgC x (QQ x f.Of) k f.Xj q.Xb) n;rw[QpC,e,Qw hn (by omega)]
  cases h1:(q.Xb[n].Xi==7&&q.Xb[n].Of==f.Xj) with
  | false=>rfl
  | true=>
   simp only[Sim.opt,Bool.true_and,if_true,beq_self_eq_true,Za]
   cases h2:upIx x (QQ x f.Of) (n:Int)==k with
   | false=>rfl
   | true=>rw[Zc rfl,Zc rfl,QaW (by rw[length_singleton];omega)];rfl
 ·unfold shl;rw[hq]
def Qen {α:Type} (s:List α) (p:α->Bool):decide (QaJ s p>=0)=s.any p:=by
 unfold QaJ
 cases h:s.findIdx? p with
 | none=>have:=findIdx?_eq_none_iff.1 h;rw[Eq.comm,any_eq_false.2 (λx hx=>by simp[this x hx])];rfl
 | some k=>obtain⟨hk,hp,_⟩:=ZD.1 h;rw[Eq.comm,Yo.2 ⟨_,Zm hk,hp⟩,Eq.comm];exact decide_eq_true (Int.natCast_nonneg k)
def QhY {α:Type} (s:List α) (p:α->Bool):(!s.any λx=>!p x)=s.all p:=by
 induction s with
 | nil=>rfl
 | cons a s ih=>simp only[any_cons,all_cons,Bool.not_or,Bool.not_not,ih]
def Qwu {s:List QA} {f:QA->Option Bool} {p:QA->Bool} (hs:s.length<=1000000) (hf:∀x∈s,f x=some (p x)):Qct s f=some (QaJ s p):=by
 unfold Qct;rw[Qcw s p (λk hk=>?_) ?_]
 ·unfold QaJ;cases s.findIdx? p<;>rfl
 ·rw[Zd (by simp)]
 ·rw[Zc (by simpa using hk),QG hk];show (f s[k]).bind _=_;rw[hf _ (Zm hk),Qw hk (by omega)];rfl
def Qwv {s:List Qs} {f:Qs->Option Bool} {p:Qs->Bool} (hs:s.length<=1000000) (hf:∀x∈s,f x=some (p x)):Qcu s f=some (QaJ s p):=by
 unfold Qcu;rw[Qcw s p (λk hk=>?_) ?_]
 ·unfold QaJ;cases s.findIdx? p<;>rfl
 ·rw[Zd (by simp)]
 ·rw[Zc (by simpa using hk),QG hk];show (f s[k]).bind _=_;rw[hf _ (Zm hk),Qw hk (by omega)];rfl
def Qww {s:List Int} {f:Int->Option Bool} {p:Int->Bool} (hs:s.length<=1000000) (hf:∀x∈s,f x=some (p x)):Qcs s f=some (QaJ s p):=by
 unfold Qcs;rw[Qcw s p (λk hk=>?_) ?_]
 ·unfold QaJ;cases s.findIdx? p<;>rfl
 ·rw[Zd (by simp)]
 ·rw[Zc (by simpa using hk),QG hk];show (f s[k]).bind _=_;rw[hf _ (Zm hk),Qw hk (by omega)];rfl
def Qsr {s:List Str} {f:Str->Option Bool} {p:Str->Bool} (hs:s.length<=1000000) (hf:∀x∈s,f x=some (p x)):Qb0 s f=some (QaJ s p):=by
 unfold Qb0;rw[Qcw s p (λk hk=>?_) ?_]
 ·unfold QaJ;cases s.findIdx? p<;>rfl
 ·rw[Zd (by simp)]
 ·rw[Zc (by simpa using hk),QG hk];show (f s[k]).bind _=_;rw[hf _ (Zm hk),Qw hk (by omega)];rfl
def Qss {s:List QO} {f:QO->Option Bool} {p:QO->Bool} (hs:s.length<=1000000) (hf:∀x∈s,f x=some (p x)):Qb1 s f=some (QaJ s p):=by
 unfold Qb1;rw[Qcw s p (λk hk=>?_) ?_]
 ·unfold QaJ;cases s.findIdx? p<;>rfl
 ·rw[Zd (by simp)]
 ·rw[Zc (by simpa using hk),QG hk];show (f s[k]).bind _=_;rw[hf _ (Zm hk),Qw hk (by omega)];rfl
def Qrl {s:List Qg} {f:Qg->Option Bool} {p:Qg->Bool} (hs:s.length<=1000000) (hf:∀x∈s,f x=some (p x)):QbL s f=some (s.any p):=by unfold QbL;rw[QpB hs hf,<-Qen];rfl
def QCn {s:List Qg} {f:Qg->Option Bool} {p:Qg->Bool} (hs:s.length<=1000000) (hf:∀x∈s,f x=some (p x)):Qea s f=some (s.all p):=by unfold Qea;rw[Qrl (p:=λx=>!p x) hs (λx hx=>by show (f x).bind _=_;rw[hf x hx];rfl),<-QhY];rfl
def Qqh {s:List Qc} {f:Qc->Option Bool} {p:Qc->Bool} (hs:s.length<=1000000) (hf:∀x∈s,f x=some (p x)):QbA s f=some (s.any p):=by unfold QbA;rw[Qoc hs hf,<-Qen];rfl
def QyI {s:List Qc} {f:Qc->Option Bool} {p:Qc->Bool} (hs:s.length<=1000000) (hf:∀x∈s,f x=some (p x)):QdP s f=some (s.all p):=by unfold QdP;rw[Qqh (p:=λx=>!p x) hs (λx hx=>by show (f x).bind _=_;rw[hf x hx];rfl),<-QhY];rfl
def Qjs {s:List QA} {f:QA->Option Bool} {p:QA->Bool} (hs:s.length<=1000000) (hf:∀x∈s,f x=some (p x)):QaV s f=some (s.any p):=by unfold QaV;rw[Qwu hs hf,<-Qen];rfl
def QCo {s:List QA} {f:QA->Option Bool} {p:QA->Bool} (hs:s.length<=1000000) (hf:∀x∈s,f x=some (p x)):Qec s f=some (s.all p):=by unfold Qec;rw[Qjs (p:=λx=>!p x) hs (λx hx=>by show (f x).bind _=_;rw[hf x hx];rfl),<-QhY];rfl
def QlW {s:List Qs} {f:Qs->Option Bool} {p:Qs->Bool} (hs:s.length<=1000000) (hf:∀x∈s,f x=some (p x)):Qbj s f=some (s.any p):=by unfold Qbj;rw[Qwv hs hf,<-Qen];rfl
def QCp {s:List Qs} {f:Qs->Option Bool} {p:Qs->Bool} (hs:s.length<=1000000) (hf:∀x∈s,f x=some (p x)):Qee s f=some (s.all p):=by unfold Qee;rw[QlW (p:=λx=>!p x) hs (λx hx=>by show (f x).bind _=_;rw[hf x hx];rfl),<-QhY];rfl
def Qrm {s:List Int} {f:Int->Option Bool} {p:Int->Bool} (hs:s.length<=1000000) (hf:∀x∈s,f x=some (p x)):QbM s f=some (s.any p):=by unfold QbM;rw[Qww hs hf,<-Qen];rfl
def QoX {s:List Str} {f:Str->Option Bool} {p:Str->Bool} (hs:s.length<=1000000) (hf:∀x∈s,f x=some (p x)):Qbt s f=some (s.any p):=by unfold Qbt;rw[Qsr hs hf,<-Qen];rfl
def QlX {s:List Str} {f:Str->Option Bool} {p:Str->Bool} (hs:s.length<=1000000) (hf:∀x∈s,f x=some (p x)):QcG s f=some (s.all p):=by unfold QcG;rw[QoX (p:=λx=>!p x) hs (λx hx=>by show (f x).bind _=_;rw[hf x hx];rfl),<-QhY];rfl
def QoY {s:List QO} {f:QO->Option Bool} {p:QO->Bool} (hs:s.length<=1000000) (hf:∀x∈s,f x=some (p x)):Qbu s f=some (s.any p):=by unfold Qbu;rw[Qss hs hf,<-Qen];rfl
def Qwx {s:List QO} {f:QO->Option Bool} {p:QO->Bool} (hs:s.length<=1000000) (hf:∀x∈s,f x=some (p x)):Qds s f=some (s.all p):=by unfold Qds;rw[QoY (p:=λx=>!p x) hs (λx hx=>by show (f x).bind _=_;rw[hf x hx];rfl),<-QhY];rfl
def inW (n a b:Int):Bool:=decide (n>=a)&&decide (n<=b)
def Qa1 {n a b:Int} (h:inW n a b=true):a<=n/\n<=b:=by simpa[inW] using h
def Qcf (c:Int):Bool:=inW c 97 122
def Qff (c:Int):Bool:=inW c 48 57
def Qdl (lo hi a b:Int):Bool:=(decide (lo>=a)&&decide (lo<=hi))&&decide (hi<=b)
def QK (s:Str):Bool:=inW (s.length:Int) 1 12&&(Qcf ((s.headD 0).toNat:Int)&&(QZ s).all λc=>Qcf c||Qff c)
def Qfp (s:Str):Qap s=some (QK s):=by
 unfold Qap QK
 cases s with
 | nil=>rfl
 | cons c s=>
  show (some (inW ((c::s).length:Int) 1 12)).bind _=_;simp only[Za]
  cases h:inW ((c::s).length:Int) 1 12 with
  | false=>rfl
  | true=>
   have hl:=(Qa1 h).2;rw[show idx (c::s) (0:Int)=some c from rfl];simp only[Sim.opt,Bool.not_true,beq_self_eq_true,if_true,Za];rw[show Qeb (c.toNat:Int)=some (Qcf (c.toNat:Int)) from rfl];simp only[Za]
   cases hc:Qcf (c.toNat:Int) with
   | false=>simp[hc]
   | true=>
    rw[Zd (by decide),Qrm (p:=λc=>!(Qcf c||Qff c)) (by simp only[QZ,Zz];omega) (λx _=>?_)]
    ·simp only[Za];rw[QhY];simp[hc]
    ·show (some (Qcf x)).bind _=_;simp only[Za]
     cases h1:Qcf x with
     | true=>rfl
     | false=>show some (true&&!Qff x)=_;rfl
def QyJ {a b:List Str} (ha:a.length<=1000000):QcR a b=some (decide (a=b)):=by
 unfold QcR;by_cases hl:a.length=b.length
 ·rw[Zd (by simp[hl])];have:Ok ((Ql (λ(s7:Int)=>((if (decide (s7<(a.length:Int)))=true then (idx a s7).bind λt18=>(idx b s7).bind λt22=>(if (t18 !=t22)=true then (some (.inr (.inr false))) else (some (.inl (i64.wrap (s7+(1:Int)))))) else (some (.inr (.inl ())))):Option ((Int)⊕((Unit)⊕(Bool))))) (0:Int)).bind λ(e8:(Unit)⊕(Bool))=>(match e8 with | .inl _=>(some true) | .inr p26=>(some p26))) (λr=>r=decide (a=b)):=by
   refine Ok.bind (P:=λe:Unit⊕Bool=>(match e with | .inl _=>true | .inr p=>p)=decide (a=b)) (Ok.loop (λm s=>0<=s/\s+m=a.length/\a.take s.toNat=b.take s.toNat) a.length ⟨ZO _,by omega,by simp⟩ λm s hs=>?_) λe he=>by cases e<;>exact Ok.mk he
   obtain⟨h1,h2,h3⟩:=hs;obtain⟨k,rfl⟩:=Zx h1;simp only[Zv] at h3;refine Ok.ite (λhk=>?_) (λhk=>?_)
   ·have hk':k<a.length:=by simpa using hk
    rw[QG hk',QG (by omega)];simp only[Za];refine Ok.ite (λhne=>Ok.mk ?_) (λheq=>Ok.mk ⟨m - 1,by omega,?_⟩)
    ·show false=_;rw[Eq.comm,ZK];rintro rfl;simp at hne
    ·have heq':a[k]=b[k]:=by simpa using heq
     rw[Qw hk' (by omega)];refine⟨by omega,by omega,?_⟩;rw[Zv,Zy hk',Zy (by omega),h3,heq']
   ·have hk':¬k<a.length:=by simpa using hk
    refine Ok.mk ?_;show true=_;rw[ZJ (by omega),ZJ (by omega)] at h3;simp[h3]
  obtain⟨r,hr,rfl⟩:=this;exact hr
 ·rw[Zc (by simp;omega)];have:a≠b:=λh=>hl (by rw[h]);simp[this]
def eqInt {a b:List Int} (ha:a.length<=1000000):QdQ a b=some (decide (a=b)):=by
 unfold QdQ;by_cases hl:a.length=b.length
 ·rw[Zd (by simp[hl])];have:Ok ((Ql (λ(s7:Int)=>((if (decide (s7<(a.length:Int)))=true then (idx a s7).bind λt18=>(idx b s7).bind λt22=>(if (t18 !=t22)=true then (some (.inr (.inr false))) else (some (.inl (i64.wrap (s7+(1:Int)))))) else (some (.inr (.inl ())))):Option ((Int)⊕((Unit)⊕(Bool))))) (0:Int)).bind λ(e8:(Unit)⊕(Bool))=>(match e8 with | .inl _=>(some true) | .inr p26=>(some p26))) (λr=>r=decide (a=b)):=by
   refine Ok.bind (P:=λe:Unit⊕Bool=>(match e with | .inl _=>true | .inr p=>p)=decide (a=b)) (Ok.loop (λm s=>0<=s/\s+m=a.length/\a.take s.toNat=b.take s.toNat) a.length ⟨ZO _,by omega,by simp⟩ λm s hs=>?_) λe he=>by cases e<;>exact Ok.mk he
   obtain⟨h1,h2,h3⟩:=hs;obtain⟨k,rfl⟩:=Zx h1;simp only[Zv] at h3;refine Ok.ite (λhk=>?_) (λhk=>?_)
   ·have hk':k<a.length:=by simpa using hk
    rw[QG hk',QG (by omega)];simp only[Za];refine Ok.ite (λhne=>Ok.mk ?_) (λheq=>Ok.mk ⟨m - 1,by omega,?_⟩)
    ·show false=_;rw[Eq.comm,ZK];rintro rfl;simp at hne
    ·have heq':a[k]=b[k]:=by simpa using heq
     rw[Qw hk' (by omega)];refine⟨by omega,by omega,?_⟩;rw[Zv,Zy hk',Zy (by omega),h3,heq']
   ·have hk':¬k<a.length:=by simpa using hk
    refine Ok.mk ?_;show true=_;rw[ZJ (by omega),ZJ (by omega)] at h3;simp[h3]
  obtain⟨r,hr,rfl⟩:=this;exact hr
 ·rw[Zc (by simp;omega)];have:a≠b:=λh=>hl (by rw[h]);simp[this]
def Qwy (l:List Int) {k:Nat} (h:k<l.length):(l.take (k+1)).sum=(l.take k).sum+l[k]:=by rw[Zy h,sum_append];simp
def Qg8 (ws:List Str) (gs:List Int):Bool:=(gs.all λg=>inW g 0 1048576)&&(((inW (ws.length:Int) 1 12&&((ws.length:Int)==(gs.length:Int)))&&decide (gs.sum>0))&&ws.all QK)
def QpD {ws:List Str} {gs:List Int} (hw:ws.length<=1000000) (hg:gs.length<=1000000):Qc3 ws gs=some (Qg8 ws gs):=by
  have key:Ok (Qc3 ws gs) (λr=>r=Qg8 ws gs):=by
    unfold Qc3;refine Ok.bind (P:=λe:Int⊕Bool=>match e with | .inl s=>(gs.all λg=>inW g 0 1048576)=true/\s=gs.sum | .inr p=>p=false/\(gs.all λg=>inW g 0 1048576)=false)
      (Ok.loop (λm s=>0<=s.1/\s.1+m=gs.length/\((gs.take s.1.toNat).all λg=>inW g 0 1048576)=true/\s.2=(gs.take s.1.toNat).sum/\0<=s.2/\s.2<=s.1 * 1048576) gs.length ⟨ZO _,by dsimp only;omega,by simp,by simp,by simp,by simp⟩ λm s hs=>?_) λe he=>?_
    · obtain⟨i,t⟩:=s;obtain⟨h1,h2,h3,h4,h5,h6⟩:=hs;dsimp only at h1 h2 h3 h4 h5 h6;obtain⟨k,rfl⟩:=Zx h1;simp only[Zv] at h3 h4;refine Ok.ite (λhk=>?_) (λhk=>?_)
      · have hk':k<gs.length:=by simpa using hk
        dsimp only;rw[QG hk'];simp only[Za];show Ok ((some (inW gs[k] 0 1048576)).bind _) _;simp only[Za];refine Ok.ite (λhn=>Ok.mk ⟨rfl,?_⟩) (λhy=>Ok.mk ⟨m - 1,by omega,?_⟩)
        · rw[all_eq_false];exact⟨_,Zm hk',by simpa using hn⟩
        · have hy':inW gs[k] 0 1048576=true:=by simpa using hy
          have hb:=Qa1 hy';dsimp only;rw[Qw hk' (by omega),w64 (n:=t+gs[k]) (by omega) (by omega)];refine⟨by omega,by omega,?_,?_,by omega,by omega⟩
          · rw[Zv,Zy hk',all_append,h3];simp[hy']
          · rw[Zv,Qwy gs hk',h4]
      · have hk':¬k<gs.length:=by simpa using hk
        rw[ZJ (by omega)] at h3 h4;exact Ok.mk ⟨h3,h4⟩
    · cases e with
      | inr p=>obtain⟨rfl,hp⟩:=he;refine Ok.mk ?_;unfold Qg8;rw[hp];rfl
      | inl s=>
        obtain⟨hp,rfl⟩:=he;dsimp only;show Ok ((some (inW (ws.length:Int) 1 12)).bind _) _;simp only[Za];rw[QlX (p:=QK) hw (λx _=>Qfp x)];unfold Qg8;rw[hp,Bool.true_and]
        cases (inW (ws.length:Int) 1 12&&((ws.length:Int)==(gs.length:Int)))&&decide (gs.sum>0) with
        | false=>exact Ok.mk rfl
        | true=>exact Ok.mk rfl
  obtain⟨r,hr,rfl⟩:=key;exact hr
def Qcx (f:Qc):Qc:=
  if f.Xi=0 then ⟨f.Xj,[],[],f.Xi,f.Lo,0,[],[]⟩
  else if f.Xi=1\/f.Xi=4\/f.Xi=5 then ⟨f.Xj,f.Of,[],f.Xi,f.Lo,f.Hi,[],[]⟩
  else if f.Xi=2 then ⟨f.Xj,[],[],f.Xi,f.Lo,f.Hi,[],[]⟩
  else if f.Xi=3 then ⟨f.Xj,[],[],f.Xi,0,0,f.Words,f.Xf⟩
  else if f.Xi=6 then ⟨f.Xj,f.Of,[],f.Xi,0,0,[],[]⟩
  else if f.Xi=7 then ⟨f.Xj,f.Of,f.Up,f.Xi,f.Lo,f.Hi,[],[]⟩
  else if f.Xi=8 then ⟨f.Xj,f.Of,f.Up,f.Xi,0,0,[],[]⟩
  else ⟨f.Xj,[],[],f.Xi,0,0,[],[]⟩
def QCq (f:Qc):Qgo f=some (Qcx f):=by
  obtain⟨n,o,u,k,lo,hi,w,g⟩:=f;unfold Qgo Qcx;by_cases h0:k=0
  · subst h0;rfl
  by_cases h1:k=1
  · subst h1;rfl
  by_cases h4:k=4
  · subst h4;rfl
  by_cases h5:k=5
  · subst h5;rfl
  by_cases h2:k=2
  · subst h2;rfl
  by_cases h3:k=3
  · subst h3;rfl
  by_cases h6:k=6
  · subst h6;rfl
  by_cases h7:k=7
  · subst h7;rfl
  by_cases h8:k=8
  · subst h8;rfl
  simp[h0,h1,h2,h3,h4,h5,h6,h7,h8]
def Qcy (a b:Qc):Bool:=(((((((a.Xj==b.Xj)&&(a.Of==b.Of))&&(a.Up==b.Up))&&(a.Xi==b.Xi))&&(a.Lo==b.Lo))&&(a.Hi==b.Hi))&&decide (a.Words=b.Words))&&decide (a.Xf=b.Xf)
def Qrn {a b:Qc} (h1:a.Words.length<=1000000) (h2:a.Xf.length<=1000000):QdR a b=some (Qcy a b):=by
  unfold QdR Qcy;rw[QyJ h1,eqInt h2]
  cases ((((((a.Xj==b.Xj)&&(a.Of==b.Of))&&(a.Up==b.Up))&&(a.Xi==b.Xi))&&(a.Lo==b.Lo))&&(a.Hi==b.Hi)) with
  | false=>rfl
  | true=>simp only[Sim.opt,Bool.true_and,beq_self_eq_true,if_true,Za];cases decide (a.Words=b.Words)<;>rfl
def QbO (f:Qc):Bool:=
  if f.Xi=0 then inW f.Lo (-1048576) 1048576
  else if f.Xi=1 then QK f.Of&&Qdl f.Lo f.Hi 0 65536
  else if f.Xi=2 then Qdl f.Lo f.Hi (-1048576) 1048576
  else if f.Xi=3 then Qg8 f.Words f.Xf
  else if f.Xi=4 then ((f.Of==[])||QK f.Of)&&Qdl f.Lo f.Hi (-1048576) 1048576
  else if f.Xi=5 then QK f.Of&&Qdl f.Lo f.Hi 0 32
  else if f.Xi=6 then QK f.Of
  else if f.Xi=7 then (QK f.Of&&QK f.Up)&&Qdl f.Lo f.Hi 0 1048576
  else if f.Xi=8 then QK f.Of&&QK f.Up
  else false
def fieldS (f:Qc):Bool:=(QK f.Xj&&Qcy f (Qcx f))&&QbO f
def Quk {f:Qc} (h1:f.Words.length<=1000000) (h2:f.Xf.length<=1000000):QeE f=some (fieldS f):=by
  unfold QeE fieldS;rw[Qfp,QCq];simp only[Za]
  cases QK f.Xj with
  | false=>rfl
  | true=>
    simp only[Sim.opt,Bool.not_true,beq_self_eq_true,if_true,Za];rw[Qrn h1 h2];simp only[Za]
    cases Qcy f (Qcx f) with
    | false=>rfl
    | true=>
      simp only[Qfp,QpD h1 h2,Bool.true_and,Bool.not_true,Bool.or_self];rw[Zd (by decide)];unfold QbO;by_cases c0:f.Xi=0
      · rw[Zc (by simp[c0]),Zc c0];rfl
      rw[Zd (by simpa using c0),Zd c0];by_cases c1:f.Xi=1
      · rw[Zc (by simp[c1]),Zc c1];cases QK f.Of<;>rfl
      rw[Zd (by simpa using c1),Zd c1];by_cases c2:f.Xi=2
      · rw[Zc (by simp[c2]),Zc c2];rfl
      rw[Zd (by simpa using c2),Zd c2];by_cases c3:f.Xi=3
      · rw[Zc (by simp[c3]),Zc c3];rfl
      rw[Zd (by simpa using c3),Zd c3];by_cases c4:f.Xi=4
      · rw[Zc (by simp[c4]),Zc c4];cases (f.Of==[])<;>cases QK f.Of<;>rfl
      rw[Zd (by simpa using c4),Zd c4];by_cases c5:f.Xi=5
      · rw[Zc (by simp[c5]),Zc c5];cases QK f.Of<;>rfl
      rw[Zd (by simpa using c5),Zd c5];by_cases c6:f.Xi=6
      · rw[Zc (by simp[c6]),Zc c6];rfl
      rw[Zd (by simpa using c6),Zd c6];by_cases c7:f.Xi=7
      · rw[Zc (by simp[c7]),Zc c7];cases QK f.Of<;>cases QK f.Up<;>rfl
      rw[Zd (by simpa using c7),Zd c7];by_cases c8:f.Xi=8
      · rw[Zc (by simp[c8]),Zc c8];cases QK f.Of<;>rfl
      rw[Zd (by simpa using c8),Zd c8]
def kindS (k:Qg):Bool:=((QK k.Xj&&Qdl k.Lo k.Hi 0 65536)&&decide ((k.Xb.length:Int)<=10))&&k.Xb.all fieldS
def QlY (l:List Qc):Prop:=l.length<=1000000/\∀f∈l,f.Words.length<=1000000/\f.Xf.length<=1000000
def Qwz {k:Qg} (h:QlY k.Xb):Qe9 k=some (kindS k):=by
  unfold Qe9 kindS;rw[Qfp,QyI (p:=fieldS) h.1 (λf hf=>Quk (h.2 f hf).1 (h.2 f hf).2)];simp only[Za]
  cases QK k.Xj with
  | false=>rfl
  | true=>
    show (opt true (some (Qdl k.Lo k.Hi 0 65536)) default).bind _=_;simp only[Sim.opt,Bool.true_and,if_true,Za]
    cases Qdl k.Lo k.Hi 0 65536 with
    | false=>rfl
    | true=>
      cases hd:decide ((k.Xb.length:Int)<=10) with
      | false=>rfl
      | true=>rfl
def QdA (n:Int) (m:QO):Bool:=inW m.a0 0 (n - 1)&&inW m.a1 0 (n - 1)
def QdX (x:QA):Bool:=(((QK x.Xj&&inW (x.Xe.length:Int) 1 12)&&x.Xe.all QK)&&decide ((x.Xg.length:Int)<=32))&&x.Xg.all (QdA (x.Xe.length:Int))
def QwA {x:QA} (h1:x.Xe.length<=1000000) (h2:x.Xg.length<=1000000):Qfa x=some (QdX x):=by
  have hm:∀m∈x.Xg,Qed m (x.Xe.length:Int)=some (QdA (x.Xe.length:Int) m):=λm _=>by unfold Qed QdA;rw[w64 (by omega) (by omega)];show (some (inW m.a0 0 ((x.Xe.length:Int) - 1))).bind _=_;simp only[Za];cases inW m.a0 0 ((x.Xe.length:Int) - 1)<;>rfl
  unfold Qfa QdX;rw[Qfp,QlX (p:=QK) h1 (λs _=>Qfp s),Qwx (p:=QdA (x.Xe.length:Int)) h2 hm];simp only[Za]
  cases QK x.Xj with
  | false=>rfl
  | true=>
    show (opt true (some (inW (x.Xe.length:Int) 1 12)) default).bind _=_;simp only[Sim.opt,Bool.true_and,if_true,Za]
    cases inW (x.Xe.length:Int) 1 12 with
    | false=>rfl
    | true=>
      simp only[Bool.true_and,beq_self_eq_true,if_true,Za]
      cases x.Xe.all QK with
      | false=>rfl
      | true=>cases decide ((x.Xg.length:Int)<=32)<;>rfl
def QbX (r:Qs):Bool:=((((QK r.Xj&&QK r.Xi)&&((r.A==[])||QK r.A))&&((r.B==[])||QK r.B))&&(r.A++r.B !=[]))&&inW r.N (-1048576) 1048576
def Qa5 {s:Str} (h:QK s=true):s.length<=12:=by unfold QK at h;simp only[Zf] at h;have:=(Qa1 h.1).2;omega
def QwB (r:Qs):Qfb r=some (QbX r):=by
  have len:∀s:Str,((s==[])||QK s)=true->s.length<=12:=λs h=>by
    rcases ZA _ _ |>.mp h with h | h
    · have:s=[]:=by simpa using h
      subst this;simp
    · exact Qa5 h
  unfold Qfb QbX;simp only[Qfp];simp only[Za]
  cases QK r.Xj with
  | false=>rfl
  | true=>
    simp only[Sim.opt,Bool.true_and,beq_self_eq_true,if_true,Za]
    cases QK r.Xi with
    | false=>rfl
    | true=>
      simp only[Bool.true_and,beq_self_eq_true,Bool.true_and];have la:=len r.A;have lb:=len r.B
      cases ha:(r.A==[])<;>cases hna:QK r.A<;>cases hb:(r.B==[])<;>cases hnb:QK r.B<;>first
        | rfl
        | (rw[ha,hna] at la;rw[hb,hnb] at lb
           have e:cat (r.A.length+r.B.length)=some ():=Zc (by have:=la rfl;have:=lb rfl;omega);simp only[e,Bool.false_or,Bool.or_false,Bool.true_or,Bool.or_true,Bool.and_true,Bool.true_and,Bool.and_self,beq_self_eq_true,if_true,Za];cases (r.A++r.B !=[])<;>rfl)
def QfA:∀(k u:Nat),u<10 ^ (k+1)->(Lib.decDigits u).length<=k+1
 | 0,u,h=>by rw[Lib.decDigits,dif_pos (by simpa using h)];simp
 | k+1,u,h=>by
  rw[Lib.decDigits];split
  ·simp
  ·have:=QfA k (u / 10) (by rw[Nat.pow_succ] at h;omega);rw[Ze,length_singleton];omega
def Qci {n:Int} (h:I64 n):(Lib.itoa n).length<=20:=by
 unfold I64 at h;unfold Lib.itoa;split
 ·have:=QfA 18 n.natAbs (by omega);rw[Zj];omega
 ·have:=QfA 18 n.toNat (by omega);omega
def QCr {n:Int} (h:I64 n):QnX n=some (Lib.itoa n):=Zc h
def QcY:AnyV->Str
 | .int n=>Lib.itoa n
 | .str s=>s
def VOk:AnyV->Prop
 | .int n=>I64 n
 | .str s=>s.length<=100
def QkW {v:AnyV} (h:VOk v):(QcY v).length<=100:=by
 cases v with
 | int n=>have:=Qci h;show (Lib.itoa n).length<=100;omega
 | str s=>exact h
def toks (l:List AnyV):Str:=l.flatMap λv=>32::QcY v
def Qnd {l:List AnyV} (h:∀v∈l,VOk v):(toks l).length<=l.length * 101:=by
 induction l with
 | nil=>simp[toks]
 | cons v l ih=>have h1:=ih λu hu=>h u (Zq _ hu);have h2:=QkW (h v Zn);have e:toks (v::l)=(32::QcY v)++toks l:=rfl;rw[e,Ze,Zj,Zj];omega
def QdB (w:Str) (l:List AnyV):Str:=w++toks l++[10]
def QfB {a b:Str} (h:a.length+b.length<=68719476736):Qa9 a b=some (a++b):=Zc h
def Qi7 {w:Str} {l:List AnyV} (h1:1<=w.length) (h2:w.length<=10) (hl:l.length<=1000) (hv:∀v∈l,VOk v):QaG w l=some (QdB w l):=by
 have key:Ok (QaG w l) (λr=>r=QdB w l):=by
  unfold QaG;rw[QfB (by simp;omega)];simp only[Za,Yf];refine Ok.bind (P:=λr=>r=w++toks l) (Ok.loop (λm s=>0<=s.1/\s.1+m=l.length/\s.2=w++toks (l.take s.1.toNat)) l.length ⟨ZO _,by dsimp only;omega,by simp[toks]⟩ λm s hs=>?_) λr hr=>?_
  ·obtain⟨i,t⟩:=s;obtain⟨e1,e2,e3⟩:=hs;dsimp only at e1 e2 e3;obtain⟨k,rfl⟩:=Zx e1;rw[Zv] at e3;subst e3;refine Ok.ite (λhk=>?_) (λhk=>?_)
   ·have hk':k<l.length:=by simpa using hk
    have hvk:=hv _ (Zm hk');have hlen:=Qnd (l:=l.take k) λv hm=>hv v (mem_of_mem_take hm);have htl:=QkW hvk;have hlk:(l.take k).length<=1000:=by rw[Yh];omega
    dsimp only;rw[QG hk'];simp only[Za];have eb:Qh9 (w++toks (l.take k)) 32=some (w++toks (l.take k)++[32]):=Zc ⟨by decide,by decide,by rw[Ze];omega⟩;rw[eb];simp only[Za];refine Ok.bind (P:=λp=>p=w++toks (l.take k)++[32]++QcY l[k]) ?_ λp hp=>Ok.mk ⟨m - 1,by omega,?_⟩
    ·cases hk2:l[k] with
     | int n=>rw[hk2] at hvk htl;show Ok (if true=true then _ else _) _;rw[Zc rfl];show Ok ((QnX n).bind _) _;rw[QCr hvk];simp only[Za];have hi:=Qci hvk;rw[QfB (by simp only[Ze,length_singleton];omega)];exact Ok.mk rfl
     | str s=>rw[hk2] at hvk htl;show Ok (if false=true then _ else ((if true=true then (Qa9 (w++toks (l.take k)++[32]) s).bind _ else _)).bind _) _;rw[Zd (by decide),Zc rfl];have hs:s.length<=100:=hvk;rw[QfB (by simp only[Ze,length_singleton];omega)];exact Ok.mk rfl
    ·subst hp;dsimp only;rw[Qw hk' (by omega)];refine⟨by omega,by omega,?_⟩;rw[Zv,Zy hk'];simp only[toks,ZQ,flatMap_cons,flatMap_nil,Yj,ZF,Ys,Yf]
   ·have hk':¬k<l.length:=by simpa using hk
    refine Ok.mk ?_;dsimp only;rw[ZJ (by omega)]
  ·subst hr;have hlen:=Qnd hv;have eb:Qhh (w++toks l)=some (w++toks l):=Zd λh=>by
    have:=ZH length h;rw[Ze,Zl] at this;omega
   rw[eb];simp only[Za];exact Ok.cat (by rw[Ze,length_singleton];omega) (Ok.mk rfl)
 obtain⟨r,hr,rfl⟩:=key;exact hr
def QgD {w:Str} {l:List AnyV} (h2:w.length<=10) (hv:∀v∈l,VOk v):(QdB w l).length<=11+l.length * 101:=by have:=Qnd hv;unfold QdB;rw[Ze,Ze,length_singleton];omega
def QaL (s:Str):Str:=if s=[] then [45] else s
def Qne (s:Str):QdI s=some (QaL s):=by
 unfold QdI QgJ;have key:∀body:Int->Option (Int⊕(Unit⊕Str)),(body 0=if (s !=[])=true then some (.inr (.inr s)) else some (.inl 1))->body 1=some (.inr (.inr [45]))->
   Ql body 0=some (.inr (QaL s)):=λbody h0 h1=>by
  rw[Qac,h0];unfold QaL;by_cases hs:s=[]
  ·rw[Zd (by simp[hs]),Zc hs];show Ql body 1=_;rw[Qac,h1]
  ·rw[Zc (by simpa using hs),Zd hs]
 rw[key _ rfl rfl];rfl
def Qaj (f:Qc):List AnyV:=
 if f.Xi=0 then [.str f.Xj,.int f.Lo]
 else if f.Xi=2 then [.str f.Xj,.int f.Lo,.int f.Hi]
 else if f.Xi=3 then [.str f.Xj,.int (f.Words.length:Int)]++(f.Words.zip f.Xf).flatMap λp=>[.str p.1,.int p.2]
 else if f.Xi=6 then [.str f.Xj,.str f.Of]
 else if f.Xi=7 then [.str f.Xj,.str f.Up,.str f.Of,.int f.Lo,.int f.Hi]
 else if f.Xi=8 then [.str f.Xj,.str f.Up,.str f.Of]
 else [.str f.Xj,.str (QaL f.Of),.int f.Lo,.int f.Hi]
def QjI (f:Qc):Str:=Qkc[f.Xi.toNat]?.getD []
def QcW (f:Qc):Str:=QdB (QjI f) (Qaj f)
def Qfg {s:Str} (h:QK s=true):VOk (.str s):=by have:=Qa5 h;show s.length<=100;omega
def QhZ {s:Str} (h:((s==[])||QK s)=true):VOk (.str (QaL s)):=by
 unfold QaL;by_cases hs:s=[]
 ·rw[Zc hs];show ([45]:Str).length<=100;decide
 ·rw[Zd hs];have:QK s=true:=by simpa[hs] using h
  exact Qfg this
def QbT {n:Int} (h:-100000000<=n/\n<=100000000):VOk (.int n):=by show I64 n;unfold I64;omega
def QwC {l:List Str} {g:List Int} (h:l.length=g.length) (k:Nat) (hk:k<l.length):(((l.zip g).take k).flatMap λp=>[AnyV.str p.1,AnyV.int p.2])++[AnyV.str l[k],AnyV.int (g[k]'(by omega))]=((l.zip g).take (k+1)).flatMap λp=>[AnyV.str p.1,AnyV.int p.2]:=by rw[Zy (by rw[length_zip];omega),ZQ,getElem_zip];rfl
def QlZ (l:List (Str×Int)):(l.flatMap λp=>[AnyV.str p.1,AnyV.int p.2]).length=2 * l.length:=by
 induction l with
 | nil=>rfl
 | cons a l ih=>rw[flatMap_cons,Ze,ih];simp;omega
structure QoZ (f:Qc):Prop where
 kind:0<=f.Xi/\f.Xi<=8
 items:∀v∈Qaj f,VOk v
 count:(Qaj f).length<=30
 pick:f.Xi=3->f.Words.length=f.Xf.length/\f.Words.length<=12
def Qbw {lo hi a b:Int} (h:Qdl lo hi a b=true):a<=lo/\lo<=hi/\hi<=b:=by simp only[Qdl,Zf,Zk] at h;omega
def Qho {f:Qc} (h:fieldS f=true):QoZ f:=by
 unfold fieldS at h;simp only[Zf] at h;obtain⟨⟨hn,_⟩,hp⟩:=h;have hnv:=Qfg hn;unfold QbO at hp;by_cases c0:f.Xi=0
 ·rw[Zc c0] at hp;have e:Qaj f=[.str f.Xj,.int f.Lo]:=by unfold Qaj;rw[Zc c0]
  refine⟨by omega,?_,by rw[e];simp,λh=>by omega⟩;have:=Qa1 hp;rw[e];simp only[Zo,Zw,ZI,ZR,forall_eq];exact⟨hnv,QbT (by omega)⟩
 rw[Zd c0] at hp;by_cases c1:f.Xi=1
 ·rw[Zc c1] at hp;simp only[Zf] at hp;have e:Qaj f=[.str f.Xj,.str (QaL f.Of),.int f.Lo,.int f.Hi]:=by unfold Qaj;simp[c1]
  have:=Qbw hp.2;refine⟨by omega,?_,by rw[e];simp,λh=>by omega⟩;rw[e];simp only[Zo,Zw,ZI,ZR,forall_eq];exact⟨hnv,QhZ (by rw[hp.1];simp),QbT (by omega),QbT (by omega)⟩
 rw[Zd c1] at hp;by_cases c2:f.Xi=2
 ·rw[Zc c2] at hp;have e:Qaj f=[.str f.Xj,.int f.Lo,.int f.Hi]:=by unfold Qaj;simp[c2]
  have:=Qbw hp;refine⟨by omega,?_,by rw[e];simp,λh=>by omega⟩;rw[e];simp only[Zo,Zw,ZI,ZR,forall_eq];exact⟨hnv,QbT (by omega),QbT (by omega)⟩
 rw[Zd c2] at hp;by_cases c3:f.Xi=3
 ·rw[Zc c3] at hp;simp only[Qg8,Zf,Zu,Yd] at hp;obtain⟨hg,⟨⟨hw,hl⟩,_⟩,hws⟩:=hp;have hw':=(Qa1 hw).2;have hl':f.Words.length=f.Xf.length:=by omega
  have e:Qaj f=[.str f.Xj,.int (f.Words.length:Int)]++(f.Words.zip f.Xf).flatMap λp=>[.str p.1,.int p.2]:=by unfold Qaj;simp[c3]
  refine⟨by omega,?_,?_,λ_=>⟨hl',by omega⟩⟩
  ·rw[e];intro v hv;rcases Zs.1 hv with hv | hv
   ·simp only[Zo,Zw,ZI] at hv;rcases hv with rfl | rfl
    ·exact hnv
    ·exact QbT (by omega)
   ·obtain⟨p,hp,hv⟩:=ZW.1 hv;obtain⟨a,b⟩:=p;have hz:=of_mem_zip hp;simp only[Zo,Zw,ZI] at hv;rcases hv with rfl | rfl
    ·exact Qfg (hws _ hz.1)
    ·have:=Qa1 (hg _ hz.2);exact QbT (by omega)
  ·rw[e,Ze,QlZ,length_zip];simp only[Zj,Zl];omega
 rw[Zd c3] at hp;by_cases c4:f.Xi=4
 ·rw[Zc c4] at hp;simp only[Zf] at hp;have e:Qaj f=[.str f.Xj,.str (QaL f.Of),.int f.Lo,.int f.Hi]:=by unfold Qaj;simp[c4]
  have:=Qbw hp.2;refine⟨by omega,?_,by rw[e];simp,λh=>by omega⟩;rw[e];simp only[Zo,Zw,ZI,ZR,forall_eq];exact⟨hnv,QhZ hp.1,QbT (by omega),QbT (by omega)⟩
 rw[Zd c4] at hp;by_cases c5:f.Xi=5
 ·rw[Zc c5] at hp;simp only[Zf] at hp;have e:Qaj f=[.str f.Xj,.str (QaL f.Of),.int f.Lo,.int f.Hi]:=by unfold Qaj;simp[c5]
  have:=Qbw hp.2;refine⟨by omega,?_,by rw[e];simp,λh=>by omega⟩;rw[e];simp only[Zo,Zw,ZI,ZR,forall_eq];exact⟨hnv,QhZ (by rw[hp.1];simp),QbT (by omega),QbT (by omega)⟩
 rw[Zd c5] at hp;by_cases c6:f.Xi=6
 ·rw[Zc c6] at hp;have e:Qaj f=[.str f.Xj,.str f.Of]:=by unfold Qaj;simp[c6]
  refine⟨by omega,?_,by rw[e];simp,λh=>by omega⟩;rw[e];simp only[Zo,Zw,ZI,ZR,forall_eq];exact⟨hnv,Qfg hp⟩
 rw[Zd c6] at hp;by_cases c7:f.Xi=7
 ·rw[Zc c7] at hp;simp only[Zf] at hp;have e:Qaj f=[.str f.Xj,.str f.Up,.str f.Of,.int f.Lo,.int f.Hi]:=by unfold Qaj;simp[c7]
  have:=Qbw hp.2;refine⟨by omega,?_,by rw[e];simp,λh=>by omega⟩;rw[e];simp only[Zo,Zw,ZI,ZR,forall_eq];exact⟨hnv,Qfg hp.1.2,Qfg hp.1.1,QbT (by omega),QbT (by omega)⟩
 rw[Zd c7] at hp;by_cases c8:f.Xi=8
 ·rw[Zc c8] at hp;simp only[Zf] at hp;have e:Qaj f=[.str f.Xj,.str f.Up,.str f.Of]:=by unfold Qaj;simp[c8]
  refine⟨by omega,?_,by rw[e];simp,λh=>by omega⟩;rw[e];simp only[Zo,Zw,ZI,ZR,forall_eq];exact⟨hnv,Qfg hp.2,Qfg hp.1⟩
 rw[Zd c8] at hp;cases hp
def Ql0 {f:Qc} (h:0<=f.Xi/\f.Xi<=8):idx Qkc f.Xi=some (QjI f)/\1<=(QjI f).length/\(QjI f).length<=10:=by
 obtain⟨k,hk⟩:=Zx h.1;have hk8:k<=8:=by omega
 unfold QjI;rw[hk,QbS,Zv];have:k=0\/k=1\/k=2\/k=3\/k=4\/k=5\/k=6\/k=7\/k=8:=by omega
 rcases this with rfl | rfl | rfl | rfl | rfl | rfl | rfl | rfl | rfl<;>exact⟨rfl,by decide,by decide⟩
def QyK {f:Qc} (h:QoZ f):QfO f=some (QcW f):=by
 obtain⟨e0,w1,w2⟩:=Ql0 h.kind;have fin:QaG (QjI f) (Qaj f)=some (QcW f):=Qi7 w1 w2 (by have:=h.count;omega) h.items;unfold QfO;rw[e0];simp only[Za];by_cases c0:f.Xi=0
 ·rw[Zc (by simp[c0])];have e:Qaj f=[.str f.Xj,.int f.Lo]:=by unfold Qaj;simp[c0]
  rw[<-e,fin];rfl
 rw[Zd (by simpa using c0)];by_cases c2:f.Xi=2
 ·rw[Zc (by simp[c2])];have e:Qaj f=[.str f.Xj,.int f.Lo,.int f.Hi]:=by unfold Qaj;simp[c2]
  rw[<-e,fin];rfl
 rw[Zd (by simpa using c2)];by_cases c3:f.Xi=3
 ·rw[Zc (by simp[c3])];obtain⟨p1,p2⟩:=h.pick c3;have e:Qaj f=[.str f.Xj,.int (f.Words.length:Int)]++(f.Words.zip f.Xf).flatMap λp=>[.str p.1,.int p.2]:=by unfold Qaj;simp[c3]
  refine QdK f.Words.length (λn=>((n:Int),[.str f.Xj,.int (f.Words.length:Int)]++((f.Words.zip f.Xf).take n).flatMap λp=>[.str p.1,.int p.2])) _ (by simp) (λn hn=>?_) (Zd (by simp)) ?_
  ·have hlen:(((f.Words.zip f.Xf).take n).flatMap λp=>[AnyV.str p.1,AnyV.int p.2]).length<=100:=by
    rw[QlZ,Yh,length_zip];omega
   rw[Zc (by simpa using hn)];dsimp only;rw[QG hn,QG (by omega)];simp only[Za];rw[QaW (by simp only[Ze,Zj,Zl];omega),Qw hn (by omega),<-QwC p1 n hn,ZF];rfl
  ·dsimp only;rw[ZJ (by rw[length_zip];omega),<-e,fin];rfl
 rw[Zd (by simpa using c3)];by_cases c6:f.Xi=6
 ·rw[Zc (by simp[c6])];have e:Qaj f=[.str f.Xj,.str f.Of]:=by unfold Qaj;simp[c6]
  rw[<-e,fin];rfl
 rw[Zd (by simpa using c6)];by_cases c7:f.Xi=7
 ·rw[Zc (by simp[c7])];have e:Qaj f=[.str f.Xj,.str f.Up,.str f.Of,.int f.Lo,.int f.Hi]:=by unfold Qaj;simp[c7]
  rw[<-e,fin];rfl
 rw[Zd (by simpa using c7)];by_cases c8:f.Xi=8
 ·rw[Zc (by simp[c8])];have e:Qaj f=[.str f.Xj,.str f.Up,.str f.Of]:=by unfold Qaj;simp[c8]
  rw[<-e,fin];rfl
 rw[Zd (by simpa using c8),Qne];simp only[Za];have e:Qaj f=[.str f.Xj,.str (QaL f.Of),.int f.Lo,.int f.Hi]:=by unfold Qaj;simp[c0,c2,c3,c6,c7,c8]
 rw[<-e,fin];rfl
def Qg9 {f:Qc} (h:QoZ f):(QcW f).length<=4000:=by have:=QgD (Ql0 h.kind).2.2 h.items;have:=h.count;unfold QcW;omega
def QdM {α:Type} (l:List α) (g:α->Str) (B:Nat) (hB:∀a∈l,(g a).length<=B) (a0:Str) {body:Int×Str->Option ((Int×Str)⊕Str)}
  (hs:∀k (h:k<l.length) acc,acc.length<=a0.length+k * B->body ((k:Int),acc)=some (.inl (((k+1:Nat):Int),acc++g l[k]))) (he:∀acc,body ((l.length:Int),acc)=some (.inr acc)):
  Ql body ((0:Int),a0)=some (a0++l.flatMap g):=by
 have hlen:∀n,n<=l.length->((l.take n).flatMap g).length<=n * B:=λn=>by
  induction n with
  | zero=>intro _;simp
  | succ n ih=>intro hn;rw[Zy (by omega),ZQ,Ze,Nat.succ_mul];have h1:=ih (by omega);have h2:=hB _ (Zm (show n<l.length by omega));simp only[flatMap_cons,flatMap_nil,Yj];omega
 have h:=Qb9 (body:=body) l.length (λn=>((n:Int),a0++(l.take n).flatMap g)) (a0++l.flatMap g) (λk hk=>?_) ?_
 ·simpa using h
 ·rw[hs k hk _ (by rw[Ze];have:=hlen k (by omega);omega),Zy hk,ZQ];simp
 ·rw[he];simp
def QdC (k:Qg):Str:=QdB [107,105,110,100] [.str k.Xj,.int k.Lo,.int k.Hi]++k.Xb.flatMap QcW
def Qf4 (m:QO):Str:=QdB [109,111,118,101] [.int m.a0,.int m.a1]
def Qd5 (l:QA):Str:=QdB [108,105,102,101] ([.str l.Xj,.int (l.Xe.length:Int)]++l.Xe.map .str)++l.Xg.flatMap Qf4
def Qdu (r:Qs):List AnyV:=[.str r.Xj,.str r.Xi,.str (QaL r.A),.str (QaL r.B),.int r.N]
def Qf5 (r:Qs):Str:=QdB [114,117,108,101] (Qdu r)
def srcS (x:Qb):Str:=QdB [115,99,104,101,109,97] [.int x.Version]++x.Xa.flatMap QdC++x.Xd.flatMap Qd5++x.Xc.flatMap Qf5
def Qb4 {k:Qg} (h:kindS k=true):(∀v∈[AnyV.str k.Xj,.int k.Lo,.int k.Hi],VOk v)/\k.Xb.length<=10/\∀f∈k.Xb,fieldS f=true:=by simp only[kindS,Zf,Zu,Zk] at h;obtain⟨⟨⟨h1,h2⟩,h3⟩,h4⟩:=h;have:=Qbw h2;refine⟨?_,by omega,h4⟩;simp only[Zo,Zw,ZI,ZR,forall_eq];exact⟨Qfg h1,QbT (by omega),QbT (by omega)⟩
def Qda {α:Type} {l:List α} {g:α->Str} {B:Nat} (h:∀a∈l,(g a).length<=B):(l.flatMap g).length<=l.length * B:=by
 induction l with
 | nil=>simp
 | cons a l ih=>have h1:=ih λb hb=>h b (Zq _ hb);have h2:=h a Zn;rw[flatMap_cons,Ze,Zj,Nat.succ_mul];omega
def QjZ {k:Qg} (h:kindS k=true):(QdC k).length<=50000:=by obtain⟨h1,h2,h3⟩:=Qb4 h;have e1:=QgD (w:=[107,105,110,100]) (by decide) h1;have e2:=Qda (l:=k.Xb) (g:=QcW) (B:=4000) λf hf=>Qg9 (Qho (h3 f hf));unfold QdC;rw[Ze];simp only[Zj,Zl] at e1;omega
def QwD {n:Int} (hn:n<=1000) {m:QO} (h:QdA n m=true):∀v∈[AnyV.int m.a0,.int m.a1],VOk v:=by simp only[QdA,Zf] at h;have h1:=Qa1 h.1;have h2:=Qa1 h.2;simp only[Zo,Zw,ZI,ZR,forall_eq];exact⟨QbT (by omega),QbT (by omega)⟩
def QwE {l:QA} (h:QdX l=true):(∀v∈[AnyV.str l.Xj,.int (l.Xe.length:Int)]++l.Xe.map .str,VOk v)/\l.Xe.length<=12/\l.Xg.length<=32/\∀m∈l.Xg,∀v∈[AnyV.int m.a0,.int m.a1],VOk v:=by
 simp only[QdX,Zf,Zu,Zk] at h;obtain⟨⟨⟨⟨h1,h2⟩,h3⟩,h4⟩,h5⟩:=h;have hl:=(Qa1 h2).2;refine⟨λv hv=>?_,by omega,by omega,λm hm=>QwD (by omega) (h5 m hm)⟩;rcases Zs.1 hv with hv | hv
 ·simp only[Zo,Zw,ZI] at hv;rcases hv with rfl | rfl
  ·exact Qfg h1
  ·exact QbT (by omega)
 ·obtain⟨s,hs,rfl⟩:=ZE.1 hv;exact Qfg (h3 s hs)
def Qib {m:QO} (h:∀v∈[AnyV.int m.a0,.int m.a1],VOk v):(Qf4 m).length<=300:=by have:=QgD (w:=[109,111,118,101]) (by decide) h;simp only[Zj,Zl] at this;unfold Qf4;omega
def Qic {l:QA} (h:QdX l=true):(Qd5 l).length<=20000:=by obtain⟨h1,h2,h3,h4⟩:=QwE h;have e1:=QgD (w:=[108,105,102,101]) (by decide) h1;have e2:=Qda (l:=l.Xg) (g:=Qf4) (B:=300) λm hm=>Qib (h4 m hm);unfold Qd5;rw[Ze];simp only[Ze,Zj,Zl,Zz] at e1;omega
def QwF {r:Qs} (h:QbX r=true):∀v∈Qdu r,VOk v:=by simp only[QbX,Zf] at h;obtain⟨⟨⟨⟨⟨h1,h2⟩,h3⟩,h4⟩,_⟩,h5⟩:=h;have:=Qa1 h5;unfold Qdu;simp only[Zo,Zw,ZI,ZR,forall_eq];exact⟨Qfg h1,Qfg h2,QhZ h3,QhZ h4,QbT (by omega)⟩
def Qj0 {r:Qs} (h:QbX r=true):(Qf5 r).length<=1000:=by have:=QgD (w:=[114,117,108,101]) (by decide) (QwF h);have e:(Qdu r).length=5:=rfl;unfold Qf5;omega
def Qeo (x:Qb):Bool:=((((inW x.Version 0 1048576&&decide ((x.Xa.length:Int)<=6))&&decide ((x.Xd.length:Int)<=6))&&decide ((x.Xc.length:Int)<=16))&&x.Xa.all kindS)&&x.Xd.all QdX&&x.Xc.all QbX
structure Qfh (x:Qb):Prop where
 version:0<=x.Version/\x.Version<=1048576
 kinds:x.Xa.length<=6
 lives:x.Xd.length<=6
 rules:x.Xc.length<=16
 kind:∀k∈x.Xa,kindS k=true
 life:∀l∈x.Xd,QdX l=true
 rule:∀r∈x.Xc,QbX r=true
def Qiw {x:Qb} (h:Qeo x=true):Qfh x:=by simp only[Qeo,Zf,Zu,Zk] at h;obtain⟨⟨⟨⟨⟨⟨h1,h2⟩,h3⟩,h4⟩,h5⟩,h6⟩,h7⟩:=h;exact⟨Qa1 h1,by omega,by omega,by omega,h5,h6,h7⟩
def QwG {x:Qb} (h:Qfh x):Qfc x=some (srcS x):=by
 have hv:=h.version;have v0:∀v∈[AnyV.int x.Version],VOk v:=by simp only[Zo,Zw,ZI,forall_eq];exact QbT (by omega)
 have l0:=QgD (w:=[115,99,104,101,109,97]) (by decide) v0;simp only[Zj,Zl] at l0;have lk:=Qda (l:=x.Xa) (g:=QdC) (B:=50000) λk hk=>QjZ (h.kind k hk);have ll:=Qda (l:=x.Xd) (g:=Qd5) (B:=20000) λk hk=>Qic (h.life k hk);have nk:=h.kinds;have nl:=h.lives;have nr:=h.rules;unfold Qfc;rw[Qi7 (by decide) (by decide) (by simp) v0];simp only[Za];rw[QfB (by rw[Zl];omega)];simp only[Za,Yf];rw[QdM x.Xa QdC 50000 (λk hk=>QjZ (h.kind k hk)) (QdB [115,99,104,101,109,97] [.int x.Version]) (λk hk acc hacc=>?_) (λacc=>Zd (by simp))]
 ·simp only[Za];rw[QdM x.Xd Qd5 20000 (λk hk=>Qic (h.life k hk)) (QdB [115,99,104,101,109,97] [.int x.Version]++x.Xa.flatMap QdC) (λk hk acc hacc=>?_) (λacc=>Zd (by simp))]
  ·simp only[Za];rw[QdM x.Xc Qf5 1000 (λk hk=>Qj0 (h.rule k hk)) (QdB [115,99,104,101,109,97] [.int x.Version]++x.Xa.flatMap QdC++x.Xd.flatMap Qd5) (λk hk acc hacc=>?_) (λacc=>Zd (by simp))]
   ·simp only[Za];have e:Qhh (srcS x)=some (srcS x):=Zd λh=>by
     have:=ZH length h;simp only[srcS,QdB,Ze,Zj,Zl] at this;omega
    show (Qhh (srcS x)).bind _=_;rw[e];rfl
   ·have hr:=h.rule _ (Zm hk);have hrl:=Qj0 hr;rw[Zc (by simpa using hk)];dsimp only;rw[QG hk];simp only[Za];rw[Qne,Qne];simp only[Za];show (QaG [114,117,108,101] (Qdu x.Xc[k])).bind _=_;rw[Qi7 (by decide) (by decide) (by simp[Qdu]) (QwF hr)];simp only[Za];rw[Ze,Ze] at hacc;rw[QfB (by show acc.length+(Qf5 x.Xc[k]).length<=_;omega),Qw hk (by omega)];rfl
  ·have hl:=h.life _ (Zm hk);obtain⟨w1,w2,w3,w4⟩:=QwE hl;have hll:=Qic hl;rw[Zc (by simpa using hk)];dsimp only;rw[QG hk];simp only[Za];have hst:∀n,n<=x.Xd[k].Xe.length->([AnyV.str x.Xd[k].Xj,.int (x.Xd[k].Xe.length:Int)]++(x.Xd[k].Xe.take n).map AnyV.str).length<=100:=λn hn=>by
    simp only[Ze,Zj,Zl,Zz,Yh];omega
   refine QdK x.Xd[k].Xe.length (λn=>((n:Int),[AnyV.str x.Xd[k].Xj,.int (x.Xd[k].Xe.length:Int)]++(x.Xd[k].Xe.take n).map AnyV.str)) _ (by simp) (λn hn=>?_) (Zd (by simp)) ?_
   ·rw[Zc (by simpa using hn)];dsimp only;rw[QG hn];simp only[Za];rw[QaW (by have:=hst n (by omega);rw[length_singleton];omega),Qw hn (by omega),Zy hn,ZM,<-ZF];rfl
   ·dsimp only;rw[ZJ (ZB _),Qi7 (by decide) (by decide) (by have:=hst _ (ZB _);rw[ZJ (ZB _)] at this;omega) w1];simp only[Za];have l1:=QgD (w:=[108,105,102,101]) (by decide) w1;simp only[Ze,Zj,Zl,Zz] at l1;rw[Ze] at hacc;rw[QfB (by omega)];simp only[Za];rw[QdM x.Xd[k].Xg Qf4 300 (λm hm=>Qib (w4 m hm)) _ (λq hq acc2 hacc2=>?_) (λacc=>Zd (by simp))]
    ·simp only[Za];rw[Qw hk (by omega)];simp[Qd5]
    ·have hm:=w4 _ (Zm hq);have hml:=Qib hm;rw[Zc (by simpa using hq)];dsimp only;rw[QG hq];simp only[Za];rw[Qi7 (by decide) (by decide) (by simp) hm];simp only[Za];rw[Ze] at hacc2;rw[QfB (by show acc2.length+(Qf4 x.Xd[k].Xg[q]).length<=_;omega),Qw hq (by omega)];rfl
 ·have hk':=h.kind _ (Zm hk);obtain⟨w1,w2,w3⟩:=Qb4 hk';have l1:=QgD (w:=[107,105,110,100]) (by decide) w1;simp only[Zj,Zl] at l1;rw[Zc (by simpa using hk)];dsimp only;rw[QG hk];simp only[Za];rw[Qi7 (by decide) (by decide) (by simp) w1];simp only[Za];rw[QfB (by omega)];simp only[Za];rw[QdM x.Xa[k].Xb QcW 4000 (λf hf=>Qg9 (Qho (w3 f hf))) _ (λq hq acc2 hacc2=>?_) (λacc=>Zd (by simp))]
  ·simp only[Za];rw[Qw hk (by omega)];simp[QdC]
  ·have hf:=Qho (w3 _ (Zm hq));have hfl:=Qg9 hf;rw[Zc (by simpa using hq)];dsimp only;rw[QG hq];simp only[Za];rw[QyK hf];simp only[Za];rw[Ze] at hacc2;rw[QfB (by omega),Qw hq (by omega)];rfl
def Qep (x:Qb):Int:=if Qeo x=true then (if (srcS x).length>8192 then 4 else 0) else 1
def Fine (x:Qb):Prop:=(x.Xa.length<=1000000/\∀k∈x.Xa,QlY k.Xb)/\(x.Xd.length<=1000000/\∀l∈x.Xd,l.Xe.length<=1000000/\l.Xg.length<=1000000)/\x.Xc.length<=1000000
def Sz.fine {x:Qb} (h:Sz x):Fine x:=by
 obtain⟨⟨a1,a2⟩,⟨b1,b2⟩,c,_⟩:=h;refine⟨⟨by omega,λk hk=>⟨by have:=(a2 k hk).1;omega,λf hf=>?_⟩⟩,⟨by omega,λl hl=>?_⟩,by omega⟩
 ·have:=(a2 k hk).2.1 f hf;exact⟨by have:=this.1;omega,by have:=this.2.1;omega⟩
 ·have:=b2 l hl;exact⟨by omega,by omega⟩
def QyL {x:Qb} (h:Fine x):QfP x=some (Qep x):=by
 obtain⟨⟨a1,a2⟩,⟨b1,b2⟩,c⟩:=h;unfold QfP;rw[QCn (p:=kindS) a1 (λk hk=>Qwz (a2 k hk)),QCo (p:=QdX) b1 (λl hl=>QwA (b2 l hl).1 (b2 l hl).2),QCp (p:=QbX) c (λr _=>QwB r)];show (some (inW x.Version 0 1048576)).bind _=_;simp only[Za];have n1:∀(n:Nat) (m:Int),decide ((n:Int)>m)=!decide ((n:Int)<=m):=λn m=>by
  by_cases h:(n:Int)<=m
  ·rw[decide_eq_true h,decide_eq_false (by omega)];rfl
  ·rw[decide_eq_false h,decide_eq_true (by omega)];rfl
 rw[n1,n1,n1];unfold Qep
 cases hv:Qeo x with
 | true=>
  have hs:=QwG (Qiw hv);simp only[Qeo,Zf] at hv;obtain⟨⟨⟨⟨⟨⟨h1,h2⟩,h3⟩,h4⟩,h5⟩,h6⟩,h7⟩:=hv;simp only[h1,h2,h3,h4,h5,h6,h7,Sim.opt,Bool.not_true,Bool.or_self,beq_self_eq_true,if_true,Za];rw[Zd (by decide),hs];simp only[Za];by_cases hl:(srcS x).length>8192
  ·rw[Zc (by simp;omega),Zc hl]
  ·rw[Zd (by simp;omega),Zd hl]
 | false=>
  rw[Zd (by decide)];unfold Qeo at hv
  cases h1:inW x.Version 0 1048576<;>cases h2:decide ((x.Xa.length:Int)<=6)<;>cases h3:decide ((x.Xd.length:Int)<=6)<;>cases h4:decide ((x.Xc.length:Int)<=16)<;>
   cases h5:x.Xa.all kindS<;>cases h6:x.Xd.all QdX<;>cases h7:x.Xc.all QbX<;>first | rfl | (rw[h1,h2,h3,h4,h5,h6,h7] at hv;cases hv)

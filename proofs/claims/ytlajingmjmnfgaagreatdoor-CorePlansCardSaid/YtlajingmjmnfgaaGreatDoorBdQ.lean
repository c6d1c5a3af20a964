/- Package bounds: BoundsCloses holds of the Lean functions. No condition. -/
import Derived.Test.YtlajingmjmnfgaaGreatDoorCtI
import Derived.Test.YtlajingmjmnfgaaGreatDoorCtA
set_option linter.all false
open List Go.IntKind
namespace Go.Proofs.YtlajingmjmnfgaaGreatDoor
open Go.Sim
def QuE {f:Nat→List Int} {p:List Int}:∀k i,Qip f k i=some p→∃j,i≤j∧j<i+k∧p=f j∧p.isEmpty=false∧∀q,i≤q→q<j→(f q).isEmpty=true:=by
 intro k
 induction k with
 | zero=>intro i h;cases h
 | succ k ih=>
  intro i h;unfold Qip at h;split at h
  ·next he=>
   obtain⟨j,h1,h2,h3,h4,h5⟩:=ih _ h;refine⟨j,by omega,by omega,h3,h4,fun q hq hqj=>?_⟩;by_cases hqi:q=i
   ·rw[hqi];exact he
   ·exact h5 q (by omega) hqj
  ·next he=>cases h;exact⟨i,by omega,by omega,rfl,by simpa using he,fun q _ _=>by omega⟩
def Qn2 {f:Nat→List Int}:∀k i,Qip f k i=none→∀q,i≤q→q<i+k→(f q).isEmpty=true:=by
 intro k
 induction k with
 | zero=>intro i _ q _ _;omega
 | succ k ih=>
  intro i h q hq hqk;unfold Qip at h;split at h
  ·next he=>
   by_cases hqi:q=i
   ·rw[hqi];exact he
   ·exact ih _ h q (by omega) (by omega)
  ·cases h
def Qn3 {f:Nat→Nat→List Int} {len:Nat} {p:List Int}:∀k many,QeH f len k many=some p→∃q i,many≤q∧q<many+k∧i<len∧p=f q i∧p.isEmpty=false∧(∀j,j<i→(f q j).isEmpty=true)∧∀q',many≤q'→q'<q→∀j,j<len→(f q' j).isEmpty=true:=by
 intro k
 induction k with
 | zero=>intro many h;cases h
 | succ k ih=>
  intro many h;unfold QeH at h;split at h
  ·next p' hs=>cases h;obtain⟨j,_,h2,h3,h4,h5⟩:=QuE _ _ hs;exact⟨many,j,by omega,by omega,by omega,h3,h4,fun q hq=>h5 q (by omega) hq,fun q' h1 h2=>by omega⟩
  ·next hs=>
   obtain⟨q,i,h1,h2,h3,h4,h5,h6,h7⟩:=ih _ h;refine⟨q,i,by omega,by omega,h3,h4,h5,h6,fun q' hq' hq j hj=>?_⟩;by_cases hqm:q'=many
   ·rw[hqm];exact Qn2 _ _ hs j (by omega) (by omega)
   ·exact h7 q' (by omega) hq j hj
def QuF {f:Nat→Nat→List Int} {len:Nat}:∀k many,QeH f len k many=none→∀q,many≤q→q<many+k→∀j,j<len→(f q j).isEmpty=true:=by
 intro k
 induction k with
 | zero=>intro many _ q _ _;omega
 | succ k ih=>
  intro many h q hq hqk j hj;unfold QeH at h;split at h
  ·cases h
  ·next hs=>
   by_cases hqm:q=many
   ·rw[hqm];exact Qn2 _ _ hs j (by omega) (by omega)
   ·exact ih _ h q (by omega) (by omega) j hj
def QuG {E:List Ed} {many first:Nat}:(QbG E many first).length≤many+1:=by
 unfold QbG;split
 ·have:=(Qm7 (E:=E) (Ly:=lay (E.getD first ⟨0,0,0⟩).a (E.drop (first+1))) (first:=first) (many - 1) ((E.getD first ⟨0,0,0⟩).b,[(first:Int)],(E.getD first ⟨0,0,0⟩).w)).2;simp only[ZB,ZS] at this;omega
 ·simp
def Qzd (n:Int) (l:List Qz):(cycS n l).1.length≤12:=by
 unfold cycS;by_cases h:Qbn n l=0
 ·obtain⟨m,rfl,hv⟩:=Qm6 h;have hm11:=hv.m11;rw[Zd (by simpa using h)];split
  ·next p hp=>obtain⟨q,i,h1,h2,_,h4,_⟩:=Qn3 _ _ hp;rw[h4];have:=QuG (E:=l.map (edN ((m:Int) - 1+1).toNat)) (many:=q) (first:=i);simp only;omega
  ·simp
 ·rw[Zc h];simp
def Qpz {m:Nat} {l:List Qz} (hv:QcG m l):Qbn ((m:Int) - 1) l=0:=by have h1:=hv.m1;have h2:=hv.m11;have h3:=hv.len;unfold Qbn;rw[Zd (by simp;omega),Zd (by simp;omega),Zd];intro h;obtain⟨d,hd,hb⟩:=Yj.1 h;obtain⟨a1,a2,a3,a4,a5,a6,a7⟩:=hv.ok d hd;unfold badD at hb;simp only[Zz,Zj,Ye] at hb;omega
def QrH {m:Nat} {l:List Qz} (hv:QcG m l):QlP ((m:Int) - 1) l=if negB m (tP m l)=true then ([],14) else (tab m (tP m l),0):=by unfold QlP;rw[Zd (by rw[Qpz hv];simp),show ((m:Int) - 1+1).toNat=m by omega]
def Qw9 {α:Type} {f:Nat→List α} {n:Nat}:(range (n+1)).flatMap f=(range n).flatMap f++f n:=by rw[Yf,ZM];simp
def walk:Nat→Nat→List Ed→Prop
 | i,k,[]=>i=k
 | i,k,e::es=>e.a=i∧walk e.b k es
def esum (es:List Ed):Int:=(es.map Ed.w).sum
def Qf2 {e:Ed} {es:List Ed}:esum (e::es)=e.w+esum es:=by simp[esum]
def QrI {a b:List Ed}:esum (a++b)=esum a+esum b:=by simp[esum]
def Qi0 {es fs:List Ed}:∀{i k:Nat},walk i k (es++fs)↔∃j,walk i j es∧walk j k fs:=by
 induction es with
 | nil=>intro i k;simp[walk]
 | cons e es ih=>
  intro i k;simp only[Yq,walk,ih];constructor
  ·rintro ⟨h1,j,h2,h3⟩;exact⟨j,⟨h1,h2⟩,h3⟩
  ·rintro ⟨j,⟨h1,h2⟩,h3⟩;exact⟨h1,j,h2,h3⟩
def Qze {E:List Ed} {i k:Nat} {w:Int} (h:Way E i k w):∃es,walk i k es∧esum es=w∧∀e∈es,e∈E:=by
 induction h with
 | nil i=>exact⟨[],rfl,rfl,fun e he=>by cases he⟩
 | @cons e k w he _ ih=>
  obtain⟨es,h1,h2,h3⟩:=ih;refine⟨e::es,⟨rfl,h1⟩,by rw[Qf2,h2],fun x hx=>?_⟩;rcases Zm.1 hx with rfl | hx
  ·exact he
  ·exact h3 x hx
def Qzf {E:List Ed}:∀{es:List Ed} {i k:Nat},walk i k es→(∀e∈es,e∈E)→Way E i k (esum es):=by
 intro es
 induction es with
 | nil=>intro i k h _;cases h;exact .nil i
 | cons e es ih=>intro i k h hm;obtain⟨rfl,h⟩:=h;rw[Qf2];exact .cons (hm e (Zk ..)) (ih h fun x hx=>hm x (Zl _ hx))
def Qxa {l:List Ed} (h:¬(l.map Ed.a).Nodup):∃p e q f r,l=p++e::(q++f::r)∧e.a=f.a:=by
 induction l with
 | nil=>simp at h
 | cons x l ih=>
  rw[Yi,nodup_cons] at h;by_cases hx:x.a∈l.map Ed.a
  ·obtain⟨f,hf,he⟩:=ZC.1 hx;obtain⟨q,r,rfl⟩:=append_of_mem hf;exact⟨[],x,q,f,r,rfl,he.symm⟩
  ·obtain⟨p,e,q,f,r,rfl,h2⟩:=ih fun h2=>h ⟨hx,h2⟩;exact⟨x::p,e,q,f,r,rfl,h2⟩
def QuH:∀(n:Nat) (es:List Ed) (i:Nat),es.length≤n→walk i i es→esum es<0→∃j cs,walk j j cs∧esum cs<0∧(cs.map Ed.a).Nodup∧∀e∈cs,e∈es:=by
 intro n
 induction n with
 | zero=>intro es i hn _ hs;have:es=[]:=ZO (by omega);subst this;simp[esum] at hs
 | succ n ih=>
  intro es i hn hw hs;by_cases hd:(es.map Ed.a).Nodup
  ·exact⟨i,es,hw,hs,hd,fun e he=>he⟩
  ·obtain⟨p,e,q,f,r,rfl,hef⟩:=Qxa hd;obtain⟨j,h1,h2⟩:=Qi0.1 hw;obtain⟨h3,h4⟩:=h2;obtain⟨j2,h5,h6⟩:=Qi0.1 h4;obtain⟨h7,h8⟩:=h6;have c1:walk e.a e.a (e::q):=⟨rfl,by rw[hef,h7];exact h5⟩;have c2:walk i i (p++f::r):=Qi0.2 ⟨j,h1,by rw[←h3,hef];exact⟨rfl,h8⟩⟩;have hsum:esum (p++e::(q++f::r))=esum (e::q)+esum (p++f::r):=by
    simp only[QrI,Qf2];omega
   rw[hsum] at hs;simp only[Zi,ZB] at hn;by_cases hneg:esum (e::q)<0
   ·obtain⟨j,cs,g1,g2,g3,g4⟩:=ih (e::q) e.a (by simp only[ZB];omega) c1 hneg;refine⟨j,cs,g1,g2,g3,fun x hx=>?_⟩;have:=g4 x hx;simp only[Zp,Zm] at this ⊢;rcases this with h | h
    ·exact .inr (.inl h)
    ·exact .inr (.inr (.inl h))
   ·obtain⟨j,cs,g1,g2,g3,g4⟩:=ih (p++f::r) i (by simp only[Zi,ZB];omega) c2 (by omega);refine⟨j,cs,g1,g2,g3,fun x hx=>?_⟩;have:=g4 x hx;simp only[Zp,Zm] at this ⊢;rcases this with h | h | h
    ·exact .inl h
    ·exact .inr (.inr (.inr (.inl h)))
    ·exact .inr (.inr (.inr (.inr h)))
def QpA {L:Nat→Int}:∀(tl:List Ed) (r:Nat→Int) (v:Nat),(tl.foldl (Qep L) r) v=r v∨∃x∈tl,x.a=v∧L x.b<INF∧(tl.foldl (Qep L) r) v=i64.wrap (L x.b+x.w):=by
 intro tl
 induction tl with
 | nil=>intro r v;exact .inl rfl
 | cons x tl ih=>
  intro r v;rw[foldl_cons];rcases ih (Qep L r x) v with h | ⟨y,hy,h1,h2,h3⟩
  ·by_cases hL:L x.b<INF
   ·have e:Qep L r x v=if v=x.a then imin (r x.a) (i64.wrap (L x.b+x.w)) else r v:=by unfold Qep;rw[Zc hL];rfl
    rw[e] at h;by_cases hv:v=x.a
    ·rw[Zc hv] at h;rcases (QhJ (r x.a) (i64.wrap (L x.b+x.w))).2.2 with g | g
     ·rw[g] at h;left;rw[h,hv]
     ·rw[g] at h;right;exact⟨x,Zk ..,hv.symm,hL,h⟩
    ·rw[Zd hv] at h;exact .inl h
   ·have e:Qep L r x=r:=by unfold Qep;rw[Zd hL]
    rw[e] at h;left;rw[e];exact h
  ·exact .inr ⟨y,Zl _ hy,h1,h2,h3⟩
def Qxb {L:Nat→Int}:∀(tl:List Ed) (r:Nat→Int) (v:Nat),(tl.foldl (Qep L) r) v≤r v:=by
 intro tl
 induction tl with
 | nil=>intro r v;exact Zy _
 | cons x tl ih=>
  intro r v;rw[foldl_cons];refine Int.le_trans (ih _ v) ?_;unfold Qep;split
  ·unfold upd1;split
   ·next h=>rw[h];exact (QhJ _ _).1
   ·exact Zy _
  ·exact Zy _
def Qzg {L:Nat→Int}:∀(tl:List Ed) (r:Nat→Int) (x:Ed),x∈tl→L x.b<INF→(tl.foldl (Qep L) r) x.a≤i64.wrap (L x.b+x.w):=by
 intro tl
 induction tl with
 | nil=>intro r x hx;cases hx
 | cons y tl ih=>
  intro r x hx hL;rw[foldl_cons];rcases Zm.1 hx with rfl | hx
  ·refine Int.le_trans (Qxb _ _ _) ?_;unfold Qep;rw[Zc hL,Qdd];exact (QhJ _ _).2.1
  ·exact ih _ x hx hL
def QgA (tl:List Ed):Prop:=∀x∈tl,-2097152≤x.w∧x.w≤2097152
def QrJ {a0:Nat} {tl:List Ed} (hs:QgA tl):∀s,s≤100→∀v,lay a0 tl s v=INF∨(-(s:Int) * 2097152≤lay a0 tl s v∧lay a0 tl s v≤(s:Int) * 2097152):=by
 intro s
 induction s with
 | zero=>
  intro _ v;show upd1 (fun _=>INF) a0 0 v=INF∨_;unfold lay upd1;by_cases h:v=a0
  ·right;rw[Zc h];omega
  ·left;rw[Zd h]
 | succ s ih=>
  intro hs100 v;have u0:INF=1099511627776:=rfl;rcases QpA (L:=lay a0 tl s) tl (fun _=>INF) v with h | ⟨x,hx,h1,h2,h3⟩
  ·exact .inl h
  ·right;have e:lay a0 tl (s+1) v=i64.wrap (lay a0 tl s x.b+x.w):=h3;have hw:=hs x hx;rcases ih (by omega) x.b with g | g
   ·omega
   ·rw[w64 (by omega) (by omega)] at e;rw[e];omega
def Qzh {a0:Nat} {tl:List Ed} (hs:QgA tl) {s:Nat} (h100:s<100) {v:Nat} (h:lay a0 tl (s+1) v<INF):∃x∈tl,x.a=v∧lay a0 tl s x.b<INF∧lay a0 tl (s+1) v=lay a0 tl s x.b+x.w:=by
 have u0:INF=1099511627776:=rfl;rcases QpA (L:=lay a0 tl s) tl (fun _=>INF) v with g | ⟨x,hx,h1,h2,h3⟩
 ·have e:lay a0 tl (s+1) v=INF:=g;omega
 ·have e:lay a0 tl (s+1) v=i64.wrap (lay a0 tl s x.b+x.w):=h3;have hw:=hs x hx;have hb:=QrJ (a0:=a0) hs s (by omega) x.b;rw[w64 (by omega) (by omega)] at e;exact⟨x,hx,h1,h2,e⟩
def lay_le {a0:Nat} {tl:List Ed} (hs:QgA tl):∀(es:List Ed) (v:Nat),es.length≤100→walk v a0 es→(∀e∈es,e∈tl)→lay a0 tl es.length v<INF∧lay a0 tl es.length v≤esum es:=by
 intro es;have u0:INF=1099511627776:=rfl
 induction es with
 | nil=>intro v _ h _;have h:v=a0:=h;subst h;show upd1 (fun _=>INF) v 0 v<INF∧upd1 (fun _=>INF) v 0 v≤esum [];rw[Qdd];exact⟨by omega,by simp[esum]⟩
 | cons e es ih=>intro v hl h hm;obtain⟨rfl,h⟩:=h;simp only[ZB] at hl ⊢;obtain⟨h1,h2⟩:=ih e.b (by omega) h fun x hx=>hm x (Zl _ hx);have he:=hm e (Zk ..);have h3:=Qzg (L:=lay a0 tl es.length) tl (fun _=>INF) e he h1;have e3:lay a0 tl (es.length+1) e.a≤i64.wrap (lay a0 tl es.length e.b+e.w):=h3;have hw:=hs e he;have hb:=QrJ (a0:=a0) hs es.length (by omega) e.b;rw[w64 (by omega) (by omega)] at e3;rw[Qf2];omega
abbrev e0B:Ed:=⟨0,0,0⟩
def Qzi {E:List Ed} {L:Nat→Int}:∀(k i:Nat) (st:WkB),i+k=E.length→(∃j,i≤j∧j<E.length∧((E.getD j e0B).a==st.1&&Qfi L st.2.2 (E.getD j e0B).w (E.getD j e0B).b)=true)→
  ∃j,i≤j∧j<E.length∧((E.getD j e0B).a==st.1&&Qfi L st.2.2 (E.getD j e0B).w (E.getD j e0B).b)=true∧inS E L k i st=((E.getD j e0B).b,st.2.1++[(j:Int)],i64.wrap (st.2.2+(E.getD j e0B).w)):=by
 intro k
 induction k with
 | zero=>rintro i st hi ⟨j,h1,h2,_⟩;omega
 | succ k ih=>
  rintro i st hi ⟨j,h1,h2,h3⟩;unfold inS;by_cases hc:((E.getD i e0B).a==st.1&&Qfi L st.2.2 (E.getD i e0B).w (E.getD i e0B).b)=true
  ·rw[Zc hc];exact⟨i,Zx _,by omega,hc,rfl⟩
  ·rw[Zd hc];have hij:i≠j:=by rintro rfl;exact hc h3
   obtain⟨j2,g1,g2,g3⟩:=ih (i+1) st (by omega) ⟨j,by omega,h2,h3⟩;exact⟨j2,by omega,g2,g3⟩
def QiB {E:List Ed} {j:Nat} (h:j<E.length):E.getD j e0B=E[j]:=by rw[Zh,Zb h];rfl
def Qm9 {L:Nat→Int} {sum n:Int} {v:Nat} (h1:-2147483648≤sum∧sum≤2147483648) (h2:-2097152≤n∧n≤2097152) (h3:L v=INF∨(-2147483648≤L v∧L v≤2147483648)):Qfi L sum n v=true↔L v<INF∧sum+n+L v<0:=by have u0:INF=1099511627776:=rfl;unfold Qfi;rw[Zg,Zj,Zj,w64 (n:=sum+n) (by omega) (by omega),w64 (by omega) (by omega)]
def Qiq {E:List Ed} (hs:QgA E) (k:Nat):QgA (E.drop k):=fun x hx=>hs x (mem_of_mem_drop hx)
def QoP {a0:Nat} {tl:List Ed} (hs:QgA tl) {s:Nat} (h:s≤100) (v:Nat):lay a0 tl s v=INF∨(-2147483648≤lay a0 tl s v∧lay a0 tl s v≤2147483648):=by
 rcases QrJ (a0:=a0) hs s h v with g | g
 ·exact .inl g
 ·right;omega
def QB2 {E:List Ed} (hs:QgA E) {first a0:Nat}:∀(k:Nat) (st:WkB),k≤50→first<E.length→-((100 - (k:Int)) * 2097152)≤st.2.2→st.2.2≤(100 - (k:Int)) * 2097152→
  lay a0 (E.drop (first+1)) k st.1<INF→st.2.2+lay a0 (E.drop (first+1)) k st.1<0→
  ∃js:List Nat,(outS E (lay a0 (E.drop (first+1))) first k st).2.1=st.2.1++js.map (fun (j:Nat)=>(j:Int))∧js.length=k∧(∀j∈js,j<E.length)∧walk st.1 a0 (js.map fun j=>E.getD j e0B)∧st.2.2+esum (js.map fun j=>E.getD j e0B)<0:=by
 intro k;have u0:INF=1099511627776:=rfl
 induction k with
 | zero=>
  intro st _ hf b1 b2 h1 h2;have e:lay a0 (E.drop (first+1)) 0 st.1=if st.1=a0 then 0 else INF:=rfl;rw[e] at h1 h2;by_cases h:st.1=a0
  ·rw[Zc h] at h2;exact⟨[],by simp[outS],rfl,fun j hj=>(by cases hj),h,by simpa[esum] using h2⟩
  ·rw[Zd h] at h1;omega
 | succ k ih=>
  intro st hk hf b1 b2 h1 h2;have hs2:=Qiq hs (first+1);obtain⟨x,hx,hxa,hxb,hxe⟩:=Qzh hs2 (by omega) h1;obtain⟨q,hq,rfl⟩:=Yc hx;rw[Ys] at hq;rw[getElem_drop] at hxa hxb hxe;have hj0:first+1+q<E.length:=by omega
  have cond:∀j,j<E.length→(((E.getD j e0B).a==st.1&&Qfi (lay a0 (E.drop (first+1)) k) st.2.2 (E.getD j e0B).w (E.getD j e0B).b)=true↔(E.getD j e0B).a=st.1∧lay a0 (E.drop (first+1)) k (E.getD j e0B).b<INF∧st.2.2+(E.getD j e0B).w+lay a0 (E.drop (first+1)) k (E.getD j e0B).b<0):=by intro j hj;have hw:=hs (E.getD j e0B) (by rw[QiB hj];exact Zn hj);rw[Zg,Ye,Qm9 (by omega) hw (QoP hs2 (by omega) _)]
  obtain⟨j,g1,g2,g3,g4⟩:=Qzi (E:=E) (L:=lay a0 (E.drop (first+1)) k) (E.length - (first+1)) (first+1) st (by omega) ⟨first+1+q,by omega,hj0,by rw[cond _ hj0,QiB hj0];exact⟨hxa,hxb,by omega⟩⟩;rw[cond j g2] at g3;have hw:=hs (E.getD j e0B) (by rw[QiB g2];exact Zn g2);rw[w64 (by omega) (by omega)] at g4;obtain⟨js,i1,i2,i3,i4,i5⟩:=ih ((E.getD j e0B).b,st.2.1++[(j:Int)],st.2.2+(E.getD j e0B).w) (by omega) hf (by simp only;omega) (by simp only;omega) g3.2.1 g3.2.2;refine⟨j::js,?_,by simp[i2],?_,?_,?_⟩
  ·unfold outS;rw[g4,i1];simp
  ·intro x hx;rcases Zm.1 hx with rfl | hx
   ·exact g2
   ·exact i3 x hx
  ·exact⟨g3.1,i4⟩
  ·simp only[Yi,Qf2] at i5 ⊢;omega
def Qxc {E:List Ed} (hs:QgA E) {many first:Nat} (h1:1≤many) (h2:many≤50) (hf:first<E.length) (hne:(QbG E many first).isEmpty=false):
  ∃js:List Nat,QbG E many first=js.map (fun (j:Nat)=>(j:Int))∧js.length=many∧(∀j∈js,j<E.length)∧∃i,walk i i (js.map fun j=>E.getD j e0B)∧esum (js.map fun j=>E.getD j e0B)<0:=by
 rw[QlQ] at hne;have hg:Qfi (lay (E.getD first e0B).a (E.drop (first+1)) (many - 1)) (E.getD first e0B).w 0 (E.getD first e0B).b=true:=by simpa using hne
 have hw:=hs (E.getD first e0B) (by rw[QiB hf];exact Zn hf);have hg2:=hg;rw[Qm9 (by omega) (by omega) (QoP (Qiq hs _) (by omega) _)] at hg2;obtain⟨js,i1,i2,i3,i4,i5⟩:=QB2 hs (first:=first) (a0:=(E.getD first e0B).a) (many - 1) ((E.getD first e0B).b,[(first:Int)],(E.getD first e0B).w) (by omega) hf (by simp only;omega) (by simp only;omega) hg2.1 (by simp only;omega);refine⟨first::js,?_,by simp[i2];omega,?_,(E.getD first e0B).a,⟨rfl,i4⟩,?_⟩
 ·unfold QbG;rw[Zc hg,i1];rfl
 ·intro x hx;rcases Zm.1 hx with rfl | hx
  ·exact hf
  ·exact i3 x hx
 ·simp only[Yi,Qf2];exact i5
def Qsw {E:List Ed} (hs:QgA E) (hab:∀e∈E,e.a≠e.b) {j:Nat} {cs:List Ed} (hw:walk j j cs) (hn:esum cs<0) (hd:(cs.map Ed.a).Nodup) (hm:∀e∈cs,e∈E) (hl:cs.length≤50):
  2≤cs.length∧∃first,first<E.length∧(QbG E cs.length first).isEmpty=false:=by
 classical
 have hne:∃y,y∈cs:=by
  cases cs with
  | nil=>simp[esum] at hn
  | cons y _=>exact⟨y,Zk ..⟩
 obtain⟨y,hy⟩:=hne;have hex:∃x∈E,decide (x∈cs)=true:=⟨y,hm y hy,by simpa using hy⟩;have hlt:=findIdx_lt_length_of_exists hex;have hx0:decide (E[E.findIdx fun x=>decide (x∈cs)]∈cs)=true:=findIdx_getElem (p:=fun x=>decide (x∈cs)) (w:=hlt);have hmin:∀q,(hq:q<E.length)→E[q]∈cs→E.findIdx (fun x=>decide (x∈cs))≤q:=by intro q hq hqc;refine Nat.le_of_not_lt fun h=>?_;have:=not_of_lt_findIdx (p:=fun x=>decide (x∈cs)) h;simp at this;exact this hqc
 generalize E.findIdx (fun x=>decide (x∈cs))=first at hlt hx0 hmin
 have hx:E[first]∈cs:=by simpa using hx0
 obtain⟨x,hxe⟩:∃x,E[first]=x:=⟨_,rfl⟩;rw[hxe] at hx;obtain⟨p,r,rfl⟩:=append_of_mem hx;obtain⟨k,w1,w2,w3⟩:=Qi0.1 hw;subst w2;have hwalk:walk x.b x.a (r++p):=Qi0.2 ⟨j,w3,w1⟩;have hsum:esum (p++x::r)=x.w+esum (r++p):=by simp only[QrI,Qf2];omega
 have hxE:x∈E:=hm x hx;have hwx:=hs x hxE;have hmem:∀e∈r++p,e∈E.drop (first+1):=by
  intro e he;have hec:e∈p++x::r:=by
   rcases Zp.1 he with h | h
   ·exact mem_append_right _ (Zl _ h)
   ·exact mem_append_left _ h
  have hne:e.a≠x.a:=by
   intro h;rw[ZV,Yi,nodup_append] at hd;obtain⟨_,d2,d3⟩:=hd;rw[nodup_cons] at d2;rcases Zp.1 he with g | g
   ·exact d2.1 (h▸Ya g)
   ·exact d3 e.a (Ya g) x.a (Zk ..) h
  obtain⟨q,hq,rfl⟩:=Yc (hm e hec);have h1:=hmin q hq hec;have h2:q≠first:=by rintro rfl;exact hne (by rw[hxe])
  have h3:q - (first+1)<(E.drop (first+1)).length:=by rw[Ys];omega
  have h4:(E.drop (first+1))[q - (first+1)]=E[q]:=by rw[getElem_drop];congr 1;omega
  rw[←h4];exact Zn h3
 have hlen:(p++x::r).length=(r++p).length+1:=by simp;omega
 rw[hlen] at hl ⊢;refine⟨?_,first,hlt,?_⟩
 ·refine Nat.succ_le_succ (Nat.pos_of_ne_zero fun h=>?_);have:r++p=[]:=ZO h;rw[this] at hwalk;exact hab x hxE hwalk.symm
 ·rw[QlQ];have hgd:E.getD first ⟨0,0,0⟩=x:=(QiB hlt).trans hxe
  rw[hgd,Nat.add_sub_cancel];obtain⟨l1,l2⟩:=lay_le (a0:=x.a) (Qiq hs (first+1)) (r++p) x.b (by omega) hwalk hmem;have:=(Qm9 (L:=lay x.a (E.drop (first+1)) (r++p).length) (sum:=x.w) (n:=0) (v:=x.b) (by omega) (by omega) (QoP (Qiq hs _) (by omega) _)).2 ⟨l1,by omega⟩;rw[this];rfl
def Qg0 {α:Type}:∀(l s:List α),l.Nodup→(∀x∈l,x∈s)→l.length≤s.length:=by
 intro l
 induction l with
 | nil=>intro s _ _;simp
 | cons x l ih=>
  intro s hd hm;rw[nodup_cons] at hd;obtain⟨a,b,rfl⟩:=append_of_mem (hm x (Zk ..));have:=ih (a++b) hd.2 fun y hy=>by
   have hy2:=hm y (Zl _ hy);have hyx:y≠x:=by rintro rfl;exact hd.1 hy
   rcases Zp.1 hy2 with h | h
   ·exact mem_append_left _ h
   ·rcases Zm.1 h with h | h
    ·exact (hyx h).elim
    ·exact mem_append_right _ h
  simp only[Zi,ZB] at this ⊢;omega
def Qsx {m:Nat} {l:List Qz} (hv:QcG m l):(QlP ((m:Int) - 1) l).2=if negB m (tP m l)=true then 14 else 0:=by rw[QrH hv];split<;>rfl
def QjZ {m:Nat} {l:List Qz} (hv:QcG m l):negB m (tP m l)=true↔∃i es,walk i i es∧esum es<0∧∀e∈es,e∈l.map (edN m):=by
 have hf:=tP_fin hv;have hE:=QuB hv;constructor
 ·intro h;have:∃i,i<m∧tP m l i i<0:=by
   unfold negB at h;obtain⟨i,hi,h2⟩:=Yj.1 h;exact⟨i,ZH.1 hi,by simpa using h2⟩
  obtain⟨i,hi,h2⟩:=this;have u0:INF=1099511627776:=rfl;obtain⟨es,h3,h4,h5⟩:=Qze (hf.way i i hi hi (by omega));exact⟨i,es,h3,by omega,h5⟩
 ·rintro ⟨i,es,h1,h2,h3⟩
  cases hn:negB m (tP m l) with
  | true=>rfl
  | false=>
   rw[Qn1] at hn;have hi:i<m:=by
    cases es with
    | nil=>simp[esum] at h2
    | cons e es=>rw[←h1.1];exact (hE e (h3 e (Zk ..))).1
   have:=(way_le hf hn hE (Qzf h1 h3) hi hi).2;have:=hn i hi;omega
def QpB {m:Nat} {l:List Qz} (hv:QcG m l):QgA (l.map (edN m)):=by intro x hx;obtain⟨d,hd,rfl⟩:=ZC.1 hx;obtain⟨_,_,_,_,_,a6,a7⟩:=hv.ok d hd;exact⟨a6,a7⟩
def Qzj {m:Nat} {l:List Qz} (hv:QcG m l):∀e∈l.map (edN m),e.a≠e.b:=by intro x hx;obtain⟨d,hd,rfl⟩:=ZC.1 hx;obtain⟨a1,a2,a3,a4,a5,_⟩:=hv.ok d hd;have:=hv.m1;show rowN m d.A≠rowN m d.B;unfold rowN;split<;>split<;>omega
def QpC {m:Nat} {l k:List Qz} (hv:QcG m l) (hk:QcG m k) (hsub:∀x∈k,x∈l) (hn:negB m (tP m k)=true):
  ∃q first,2≤q∧q≤m∧q≤k.length∧first<l.length∧(QbG (l.map (edN m)) q first).isEmpty=false:=by
 obtain⟨i,es,h1,h2,h3⟩:=(QjZ hk).1 hn;obtain⟨j,cs,g1,g2,g3,g4⟩:=QuH es.length es i (Zx _) h1 h2;have hm11:=hv.m11;have hcm:cs.length≤m:=by
  have:=Qg0 (cs.map Ed.a) (range m) g3 fun x hx=>by obtain⟨e,he,rfl⟩:=ZC.1 hx;exact ZH.2 (QuB hk e (h3 e (g4 e he))).1
  simpa using this
 have hck:cs.length≤k.length:=by
  have:=Qg0 (cs.map Ed.a) ((k.map (edN m)).map Ed.a) g3 fun x hx=>by obtain⟨e,he,rfl⟩:=ZC.1 hx;exact Ya (h3 e (g4 e he))
  simpa using this
 have hin:∀e∈cs,e∈l.map (edN m):=by intro e he;obtain⟨d,hd,rfl⟩:=ZC.1 (h3 e (g4 e he));exact Ya (hsub d hd)
 obtain⟨f1,first,f2,f3⟩:=Qsw (QpB hv) (Qzj hv) g1 g2 g3 hin (by omega);exact⟨cs.length,first,f1,hcm,hck,by simpa using f2,f3⟩
def QuI {m:Nat} {l:List Qz} (hv:QcG m l):cycS ((m:Int) - 1) l=match QeH (QbG (l.map (edN m))) l.length (m - 1) 2 with | some p=>(p,0) | none=>([],6):=by unfold cycS;rw[Zd (by rw[Qpz hv];simp),show ((m:Int) - 1+1).toNat=m by omega,show ((m:Int) - 1).toNat=m - 1 by omega];rfl
def pick (d:List Qz) (js:List Nat) (s:Int) (i:Nat):List Qz:=(range i).flatMap fun (q:Nat)=>if (q:Int)≠s then [d.getD (js.getD q 0) ⟨0,0,0⟩] else []
def QkO {d:List Qz} {js:List Nat} {s:Int} {i:Nat} {x:Qz}:x∈pick d js s i↔∃q:Nat,q<i∧(q:Int)≠s∧x=d.getD (js.getD q 0) ⟨0,0,0⟩:=by
 unfold pick;simp only[ZG,ZH];constructor
 ·rintro ⟨q,hq,hx⟩;split at hx
  ·next h=>exact⟨q,hq,h,Ze.1 hx⟩
  ·cases hx
 ·rintro ⟨q,hq,h,rfl⟩;exact⟨q,hq,by rw[Zc h];exact Ze.2 rfl⟩
def Qxd {d:List Qz} {js:List Nat} {s:Int} {i:Nat}:pick d js s (i+1)=pick d js s i++(if (i:Int)≠s then [d.getD (js.getD i 0) ⟨0,0,0⟩] else []):=Qw9
def QrK {d:List Qz} {js:List Nat} {s:Int}:∀i,(pick d js s i).length≤i∧(0≤s→s<i→(pick d js s i).length+1≤i):=by
 intro i
 induction i with
 | zero=>exact⟨by simp[pick],fun h1 h2=>by omega⟩
 | succ i ih=>
  rw[Qxd,Zi];by_cases h:(i:Int)=s
  ·rw[Zd (by simpa using h)];simp only[ZS];exact⟨by omega,fun _ _=>by omega⟩
  ·rw[Zc h];simp only[ZB,ZS];exact⟨by omega,fun h1 h2=>by have:=ih.2 h1 (by omega);omega⟩
def Qna {m:Nat} {l:List Qz} (hv:QcG m l) {p:List Int} (h:QeH (QbG (l.map (edN m))) l.length (m - 1) 2=some p):
  ∃js:List Nat,p=js.map (fun (j:Nat)=>(j:Int))∧(∀j∈js,j<l.length)∧2≤js.length∧js.length≤m∧negB m (tP m l)=true∧∀s:Int,-1≤s→s<js.length→QcG m (pick l js s js.length)∧negB m (tP m (pick l js s js.length))=decide (s<0):=by
 obtain⟨q,i,h1,h2,h3,h4,h5,_,h7⟩:=Qn3 _ _ h;have hm11:=hv.m11;rw[h4] at h5;obtain⟨js,g1,g2,g3,i0,g4,g5⟩:=Qxc (QpB hv) (show 1≤q by omega) (by omega) (by simpa using h3) h5;have g3':∀j∈js,j<l.length:=fun j hj=>by simpa using g3 j hj
 have hed:∀j,j<l.length→(l.map (edN m)).getD j e0B=edN m (l.getD j ⟨0,0,0⟩):=fun j hj=>by rw[QiB (by simpa using hj),Zh,Zb hj];simp
 have hin:∀e∈js.map (fun j=>(l.map (edN m)).getD j e0B),∃q,q<js.length∧e=edN m (l.getD (js.getD q 0) ⟨0,0,0⟩):=by intro e he;obtain⟨j,hj,rfl⟩:=ZC.1 he;obtain⟨q,hq,rfl⟩:=Yc hj;refine⟨q,hq,?_⟩;rw[hed _ (g3' _ hj),Zh (l:=js),Zb hq];rfl
 have hjl:∀q,q<js.length→js.getD q 0<l.length:=fun q hq=>by rw[Zh,Zb hq];exact g3' _ (Zn hq)
 have hgl:∀j,j<l.length→l.getD j ⟨0,0,0⟩∈l:=fun j hj=>by rw[Zh,Zb hj];exact Zn hj
 refine⟨js,h4.trans g1,g3',by omega,by omega,?_,fun s hs1 hs2=>?_⟩
 ·refine (QjZ hv).2 ⟨i0,_,g4,g5,fun e he=>?_⟩;obtain⟨q,hq,rfl⟩:=hin e he;exact Ya (hgl _ (hjl q hq))
 ·have hsub:∀x∈pick l js s js.length,x∈l:=by
   intro x hx;obtain⟨q,hq,_,rfl⟩:=QkO.1 hx;exact hgl _ (hjl q hq)
  have hvp:QcG m (pick l js s js.length):=⟨hv.m1,hv.m11,by have:=(QrK (d:=l) (js:=js) (s:=s) js.length).1;omega,fun x hx=>hv.ok x (hsub x hx)⟩;refine⟨hvp,?_⟩;by_cases h0:s<0
  ·rw[show decide (s<0)=true by simpa using h0];refine (QjZ hvp).2 ⟨i0,_,g4,g5,fun e he=>?_⟩;obtain⟨q,hq,rfl⟩:=hin e he;exact Ya (QkO.2 ⟨q,hq,by omega,rfl⟩)
  ·rw[show decide (s<0)=false by simpa using h0]
   cases hn:negB m (tP m (pick l js s js.length)) with
   | false=>rfl
   | true=>
    obtain⟨q',first,f1,f2,f3,f4,f5⟩:=QpC hv hvp hsub hn;have:=(QrK (d:=l) (js:=js) (s:=s) js.length).2 (by omega) hs2;have:=h7 q' f1 (by omega) first f4
    rw[this] at f5;cases f5
def Qzk {m:Nat} {l:List Qz} (hv:QcG m l) (h:QeH (QbG (l.map (edN m))) l.length (m - 1) 2=none):negB m (tP m l)=false:=by
 cases hn:negB m (tP m l) with
 | false=>rfl
 | true=>
  obtain⟨q,first,f1,f2,_,f4,f5⟩:=QpC hv hv (fun x hx=>hx) hn;have:=QuF _ _ h q f1 (by omega) first f4
  rw[this] at f5;cases f5
def padV (p:List Int):Qw:=⟨nth p 0,nth p 1,nth p 2,nth p 3,nth p 4,nth p 5⟩
def QoQ {p:List Int} {v:Int} {j:Int} (h0:0≤j):nth (p++[v]) j=if j=(p.length:Int) then v else nth p j:=by
 obtain⟨k,rfl⟩:=Zw h0;unfold nth;simp only[Zr,Zh];by_cases h:k<p.length
 ·rw[ZN h,Zd (by omega)]
 ·by_cases h2:k=p.length
  ·subst h2;rw[Zc rfl];simp
  ·rw[Zd (by omega),getElem?_eq_none (by simp;omega),getElem?_eq_none (by omega)]
def QB3 {p:List Int} {j:Int} (h:(p.length:Int)≤j):nth p j=0:=by unfold nth;rw[Zh,getElem?_eq_none (by omega)];rfl
def QtC {p:List Int} {i:Int} (h0:0≤i) (h1:i<6):nth (padV p).L i=nth p i:=by
 obtain⟨k,rfl⟩:=Zw h0
 match k,(show k<6 by omega) with
 | 0,_=>rfl
 | 1,_=>rfl
 | 2,_=>rfl
 | 3,_=>rfl
 | 4,_=>rfl
 | 5,_=>rfl
def Qj0 {p:List Int} {v:Int} (h:p.length<6):(padV p).setI (p.length:Int) v=padV (p++[v]):=by
 have e:∀j:Nat,nth (p++[v]) (j:Int)=if j=p.length then v else nth p (j:Int):=fun j=>by
  rw[QoQ (Int.natCast_nonneg j)];by_cases hj:j=p.length
  ·rw[Zc hj,Zc (by omega)]
  ·rw[Zd hj,Zd (by omega)]
 have e0:=e 0;have e1:=e 1;have e2:=e 2;have e3:=e 3;have e4:=e 4;have e5:=e 5;unfold padV Qw.setI
 match hk:p.length,h with
 | 0,_=>rw[hk] at e0 e1 e2 e3 e4 e5;simp at e0 e1 e2 e3 e4 e5;simp[e0,e1,e2,e3,e4,e5]
 | 1,_=>rw[hk] at e0 e1 e2 e3 e4 e5;simp at e0 e1 e2 e3 e4 e5;simp[e0,e1,e2,e3,e4,e5]
 | 2,_=>rw[hk] at e0 e1 e2 e3 e4 e5;simp at e0 e1 e2 e3 e4 e5;simp[e0,e1,e2,e3,e4,e5]
 | 3,_=>rw[hk] at e0 e1 e2 e3 e4 e5;simp at e0 e1 e2 e3 e4 e5;simp[e0,e1,e2,e3,e4,e5]
 | 4,_=>rw[hk] at e0 e1 e2 e3 e4 e5;simp at e0 e1 e2 e3 e4 e5;simp[e0,e1,e2,e3,e4,e5]
 | 5,_=>rw[hk] at e0 e1 e2 e3 e4 e5;simp at e0 e1 e2 e3 e4 e5;simp[e0,e1,e2,e3,e4,e5]
def Qnb (p:List Int):padV (p++[0])=padV p:=by
 have e:∀j:Int,0≤j→nth (p++[0]) j=nth p j:=fun j hj=>by
  rw[QoQ hj];split
  ·rename_i hh;rw[hh,QB3 (Zy _)]
  ·rfl
 unfold padV;rw[e 0 (by decide),e 1 (by decide),e 2 (by decide),e 3 (by decide),e 4 (by decide),e 5 (by decide)]
def Qzl {p:List Int} {v:Int} (h:p.length<6):(padV (p++[v])).setI (p.length:Int) 0=padV p:=by
 have h0:=Qnb p;rw[←h0,←Qj0 h,←Qj0 h];unfold Qw.setI
 match p.length,h with
 | 0,_=>rfl
 | 1,_=>rfl
 | 2,_=>rfl
 | 3,_=>rfl
 | 4,_=>rfl
 | 5,_=>rfl
def QaE (L:List Qe) (p:List Int):Int×Int:=L.foldl (fun r l=>if (l.A !=(p.length:Int)||decide (l.B≥(p.length:Int)))=true then r else if l.Least=true then (imax r.1 (bndS l p),r.2) else (r.1,imin r.2 (bndS l p))) (0,65536)
def farS (a b:Int):Int:=imax (a - b) (b - a)
def dst (W p:List Int):Int:=(zipWith farS p W).sum
def seqI (lo hi:Int):List Int:=(range (hi - lo+1).toNat).map fun i:Nat=>lo+(i:Int)
def QaH (L:List Qe) (W:List Int) (D:List Bool):Nat→List Int→List (List Int)
 | 0,p=>[p]
 | m+1,p=>if (QaE L p).2<(QaE L p).1 then [] else if D.getD p.length false=true then (seqI (QaE L p).1 (QaE L p).2).flatMap fun v=>QaH L W D m (p++[v]) else QaH L W D m (p++[imin (imax (nth W (p.length:Int)) (QaE L p).1) (QaE L p).2])
def cmpL:List Int→List Int→Int
 | x::a,y::b=>if x<y then -1 else if y<x then 1 else cmpL a b
 | _,_=>0
def Qxe (x y:Int) (a b:List Int):cmpL (x::a) (y::b)=if x<y then -1 else if y<x then 1 else cmpL a b:=by rw[cmpL]
def upd (W:List Int) (b:Qw×Int) (x:List Int):Qw×Int:=if b.2<0∨dst W x<b.2∨(dst W x=b.2∧cmpL (padV x).L b.1.L<0) then (padV x,dst W x) else b
def far_is (a b:Int) (ha:0≤a∧a≤65536) (hb:0≤b∧b≤65536):QdC a b=some (farS a b):=by unfold QdC farS;rw[w64 (by omega) (by omega),w64 (by omega) (by omega)]
def QoR (a b:Int):0≤farS a b:=by unfold farS imax;split<;>omega
def QtD {a b:Int} (ha:0≤a∧a≤65536) (hb:0≤b∧b≤65536):farS a b≤65536:=by unfold farS imax;split<;>omega
def Qi1:∀(W p:List Int) (v:Int),p.length<W.length→dst W (p++[v])=dst W p+farS v (nth W (p.length:Int))
 | [],p,v,h=>by simp at h
 | w::W,[],v,_=>by simp[dst,nth]
 | w::W,x::p,v,h=>by
  have ih:=Qi1 W p v (by simpa using h);unfold dst at *;simp only[Yq,zipWith_cons_cons,sum_cons,ih];have:nth (w::W) ((x::p).length:Int)=nth W (p.length:Int):=by simp[nth]
  rw[this];omega
def Qn4 (W p:List Int):0≤dst W p:=by
 unfold dst;have:∀(p W:List Int),0≤(zipWith farS p W).sum:=by
  intro p
  induction p with
  | nil=>intro W;simp
  | cons x p ih=>
   intro W
   cases W with
   | nil=>simp
   | cons w W=>simp only[zipWith_cons_cons,sum_cons];have:=ih W;have:=QoR x w;omega
 exact this p W
def dst_le {W p:List Int} (hp:∀z∈p,0≤z∧z≤65536) (hW:∀z∈W,0≤z∧z≤65536):dst W p≤p.length * 65536:=by
 unfold dst
 induction p generalizing W with
 | nil=>simp
 | cons x p ih=>
  cases W with
  | nil=>simp;omega
  | cons w W=>have h1:=ih (fun z hz=>hp z (Zl _ hz)) (fun z hz=>hW z (Zl _ hz));have h2:=QtD (hp x (Zk ..)) (hW w (Zk ..));simp only[zipWith_cons_cons,sum_cons,ZB];omega
def Qn5 {L:List Qe} {W:List Int} {D:List Bool}:∀(m:Nat) (p:List Int),p.length+m=W.length→∀x∈QaH L W D m p,dst W p≤dst W x
 | 0,p,_,x,hx=>by rw[Ze.1 hx];exact Zy _
 | m+1,p,h,x,hx=>by
  have step:∀v,x∈QaH L W D m (p++[v])→dst W p≤dst W x:=fun v hv=>by have h1:=Qn5 m (p++[v]) (by simp;omega) x hv;rw[Qi1 W p v (by omega)] at h1;have:=QoR v (nth W (p.length:Int));omega
  unfold QaH at hx;split at hx
  ·cases hx
  ·split at hx
   ·obtain⟨v,_,hv⟩:=ZG.1 hx;exact step v hv
   ·exact step _ hx
def QB4 {W:List Int} {b:Qw×Int} {l:List (List Int)} (hb:0≤b.2) (h:∀x∈l,b.2<dst W x):l.foldl (upd W) b=b:=by
 induction l with
 | nil=>rfl
 | cons x l ih=>
  have hx:=h x (Zk ..);have e:upd W b x=b:=by unfold upd;rw[Zd];rintro (h | h | ⟨h,_⟩)<;>omega
  rw[foldl_cons,e];exact ih fun y hy=>h y (Zl _ hy)
def QuJ:∀(a b:List Int),a.length=b.length→a.length≤1000000→Qcf a b=some (cmpL a b):=by
 intro a b hl hn;have key:Ok (Qcf a b) (fun r=>r=cmpL a b):=by
  unfold Qcf;refine Ok.bind (P:=fun e:Unit⊕Int=>(match e with | .inl _=>(0:Int) | .inr r=>r)=cmpL a b) (Ok.loop (fun m s=>0≤s∧s+m=a.length∧cmpL (a.drop s.toNat) (b.drop s.toNat)=cmpL a b) a.length ⟨Zy _,by omega,by simp⟩ fun m s hs=>?_) (fun e he=>?_)
  ·obtain⟨h1,h2,h3⟩:=hs;obtain⟨k,rfl⟩:=Zw h1;rw[Zr] at h3;refine Ok.ite (fun hc=>?_) (fun hc=>?_)
   ·have hk:k<a.length:=by simpa using hc
    have hk2:k<b.length:=by omega
    rw[QX hk];simp only[Za];rw[Zd (by simp;omega),QX hk2];rw[Yk hk,Yk hk2] at h3;simp only[Za];unfold Qfc QeT;simp only[Za,bne_self_eq_false];rw[Qxe] at h3;by_cases e1:a[k]<b[k]
    ·rw[Zc e1] at h3;simp only[ZU,if_false,e1,decide_true,if_true,Za];exact Ok.mk h3
    ·rw[Zd e1] at h3;by_cases e2:b[k]<a[k]
     ·rw[Zc e2] at h3;simp only[ZU,if_false,e1,decide_false,gt_iff_lt,e2,decide_true,if_true,Za];exact Ok.mk h3
     ·rw[Zd e2] at h3;simp only[ZU,if_false,e1,decide_false,gt_iff_lt,e2,Za,bne_self_eq_false];rw[QH hk (by omega)];exact Ok.mk ⟨m - 1,by omega,by omega,by omega,by rw[Zr];exact h3⟩
   ·have hk:¬k<a.length:=by simpa using hc
    rw[drop_eq_nil_of_le (by omega),drop_eq_nil_of_le (by omega)] at h3;exact Ok.mk h3
  ·cases e with
   | inl u=>show Ok (if _ then _ else _) _;rw[Zd (by simp;omega)];exact Ok.mk he
   | inr r=>exact Ok.mk he
 obtain⟨r,hr,rfl⟩:=key;exact hr
structure SrOk (L:List Qe) (W:List Int) (D:List Bool):Prop where
 few:L.length≤1000000
 lim:∀y∈L,VL y 6
 want:∀z∈W,0≤z∧z≤65536
 six:W.length≤6
 leads:D.length=W.length
def NumP (p:List Int):Prop:=∀z∈p,0≤z∧z≤65536
def Qnc {p:List Int} (h:NumP p) (j:Int):0≤nth p j∧nth p j≤65536:=by
 unfold nth;rw[Zh]
 cases hj:p[j.toNat]? with
 | none=>simp
 | some x=>exact h x (Zq hj)
def QB5 {y:Qe} {p:List Int} (hy:VL y 6):bndS y (padV p).L=bndS y p:=by
 unfold bndS;by_cases hb:y.B<0
 ·rw[Zc hb,Zc hb]
 ·rw[Zd hb,Zd hb,QtC (by omega) hy.b1]
def QB6 {p:List Int} (h:NumP p):∀z∈(padV p).L,0≤z∧z≤65536:=by intro z hz;simp only[padV,Qw.L,Zm,Zv,ZE] at hz;rcases hz with rfl | rfl | rfl | rfl | rfl | rfl<;>exact Qnc h _
def QB7 {L:List Qe} {W:List Int} {D:List Bool} (h:SrOk L W D) {p:List Int} (hp:NumP p) (hl:p.length≤6) (best:Qw) (cost:Int):
  Qch ⟨L,W,D,padV p,best,cost⟩ (p.length:Int)=some (QaE L p):=by
 let st:Nat→Int×Int:=fun k=>(L.take k).foldl (fun r l=>if (l.A !=(p.length:Int)||decide (l.B≥(p.length:Int)))=true then r else if l.Least=true then (imax r.1 (bndS l p),r.2) else (r.1,imin r.2 (bndS l p))) (0,65536)
 unfold Qch;refine QbT L.length (fun k=>((k:Int),(st k).1,(st k).2)) ((st L.length).1,(st L.length).2) rfl (fun k hk=>?_) ?_ ?_
 ·dsimp only;have hy:=h.lim _ (Zn hk);have es:st (k+1)=if (L[k].A !=(p.length:Int)||decide (L[k].B≥(p.length:Int)))=true then st k else if L[k].Least=true then (imax (st k).1 (bndS L[k] p),(st k).2) else ((st k).1,imin (st k).2 (bndS L[k] p)):=by
   show (L.take (k+1)).foldl _ _=_;rw[Zu hk,foldl_append];rfl
  rw[Zc (by simpa using hk),QX hk];have hb:Qcg L[k] (padV p).L=some (bndS L[k] p):=by rw[QyV (hy) (QB6 hp),QB5 hy]
  simp only[Za,hb,es,QH hk (show L.length≤9223372036854775807 by have:=h.few;omega)]
  cases (L[k].A !=(p.length:Int)||decide (L[k].B≥(p.length:Int))) with
  | true=>rfl
  | false=>simp only[ZU,if_false];cases L[k].Least<;>rfl
 ·dsimp only;rw[Zd (by simp)]
 ·show some ((st L.length).1,(st L.length).2)=_;have:st L.length=QaE L p:=by show (L.take L.length).foldl _ _=_;rw[take_length];rfl
  rw[this]
def Qzm {L:List Qe} {W:List Int} {D:List Bool} (h:SrOk L W D) {p:List Int} (hp:NumP p):0≤(QaE L p).1∧(QaE L p).2≤65536:=by
 unfold QaE;have key:∀(L':List Qe) (r:Int×Int),(∀y∈L',VL y 6)→0≤r.1∧r.2≤65536→
   0≤(L'.foldl (fun r l=>if (l.A !=(p.length:Int)||decide (l.B≥(p.length:Int)))=true then r else if l.Least=true then (imax r.1 (bndS l p),r.2) else (r.1,imin r.2 (bndS l p))) r).1∧
   (L'.foldl (fun r l=>if (l.A !=(p.length:Int)||decide (l.B≥(p.length:Int)))=true then r else if l.Least=true then (imax r.1 (bndS l p),r.2) else (r.1,imin r.2 (bndS l p))) r).2≤65536:=by
  intro L'
  induction L' with
  | nil=>intro r _ hr;exact hr
  | cons y L' ih=>
   intro r hL hr;rw[foldl_cons];refine ih _ (fun z hz=>hL z (Zl _ hz)) ?_;split
   ·exact hr
   ·split
    ·exact⟨by unfold imax;split<;>omega,hr.2⟩
    ·exact⟨hr.1,by unfold imin;split<;>omega⟩
 exact key L (0,65536) h.lim ⟨Zy _,Zy _⟩
def Qzn {lo hi:Int} (h:hi<lo):seqI lo hi=[]:=by unfold seqI;rw[show (hi - lo+1).toNat=0 by omega];rfl
def Qxf {lo hi:Int} (h:lo≤hi):seqI lo hi=lo::seqI (lo+1) hi:=by
 unfold seqI;rw[show (hi - lo+1).toNat=(hi - (lo+1)+1).toNat+1 by omega,range_succ_eq_map,Yi,Yw];congr 1
 ·simp
 ·refine map_congr_left fun i _=>?_;show lo+((i+1:Nat):Int)=lo+1+(i:Int);omega
def QpD {S:Type} {hi:Int} {Y:S→Int→Option S} (F:S→Int→S) (I:S→Prop) (hhi:hi≤65536):∀(c:Nat) (lo:Int) (s:S),(hi - lo+1).toNat=c→0≤lo→lo≤65537→I s→
  (∀s v,I s→lo≤v→v≤hi→Y s v=some (F s v)∧I (F s v))→
  Ql (fun (s5:Int×S)=>((opt (decide (s5.1≤hi)) (Y s5.2 s5.1) s5.2).bind fun t38=>(if (decide (s5.1≤hi))=true then (some (.inl (i64.wrap (s5.1+(1:Int)),t38))) else (some (.inr t38))))) (lo,s)=some ((seqI lo hi).foldl F s)
 | 0,lo,s,hc,h0,h1,hI,hY=>by
  rw[Qas];have e:decide (lo≤hi)=false:=by simp;omega
  dsimp only;rw[e,QlB,Qzn (by omega)];rfl
 | c+1,lo,s,hc,h0,h1,hI,hY=>by
  rw[Qas];have hle:lo≤hi:=by omega
  have e:decide (lo≤hi)=true:=by simp;omega
  obtain⟨y1,y2⟩:=hY s lo hI (Zy _) hle;dsimp only;rw[e,QiR,y1];simp only[Za,if_true];rw[w64 (by omega) (by omega),QpD F I hhi c (lo+1) (F s lo) (by omega) (by omega) (by omega) y2 (fun s v hs h2 h3=>hY s v hs (by omega) h3),Qxf hle];rfl
def set_set {a:Qw} {k:Nat} {u v:Int} (h:k<6):(a.setI (k:Int) v).setI (k:Int) u=a.setI (k:Int) u:=by
 unfold Qw.setI
 match k,h with
 | 0,_=>rfl
 | 1,_=>rfl
 | 2,_=>rfl
 | 3,_=>rfl
 | 4,_=>rfl
 | 5,_=>rfl
def getD_lt' {α:Type} {l:List α} {z:α} {i:Nat} (h:i<l.length):l.getD i z=l[i]:=by simp[Zh,h]
def Qxg {L:List Qe} {W:List Int} {D:List Bool} (h:SrOk L W D):∀(m N:Nat) (p:List Int) (b:Qw×Int),m<N→p.length+m=W.length→NumP p→
  Qbe N ⟨L,W,D,padV p,b.1,b.2⟩ (p.length:Int) (dst W p)=some ⟨L,W,D,padV p,((QaH L W D m p).foldl (upd W) b).1,((QaH L W D m p).foldl (upd W) b).2⟩
 | m,0,p,b,hm,_,_=>absurd hm (Nat.not_lt_zero _)
 | m,N+1,p,b,hm,hl,hp=>by
  show QcS (Qbe N) ⟨L,W,D,padV p,b.1,b.2⟩ (p.length:Int) (dst W p)=_;have h6:=h.six;have d0:=Qn4 W p;have d1:=dst_le hp h.want;unfold QcS;by_cases hpr:0≤b.2∧b.2<dst W p
  ·rw[Zc (by simpa using hpr),QB4 hpr.1 fun x hx=>Int.lt_of_lt_of_le hpr.2 (Qn5 m p hl x hx)]
  ·rw[Zd (by simpa using hpr)]
   cases m with
   | zero=>
    have hlen:p.length=W.length:=by omega
    rw[Zc (by simp[hlen])];show _=some (⟨L,W,D,padV p,(upd W b p).1,(upd W b p).2⟩:QA);have hc:=QuJ (padV p).L b.1.L rfl (by simp[Qw.L]);by_cases h1:b.2<0∨dst W p<b.2
    ·have e1:(decide (b.2<0)||decide (dst W p<b.2))=true:=by simpa using h1
     have e2:upd W b p=(padV p,dst W p):=Zc (by rcases h1 with h1 | h1<;>simp[h1]);rw[e1,e2];rfl
    ·have e1:(decide (b.2<0)||decide (dst W p<b.2))=false:=by simp;omega
     have heq:dst W p=b.2:=by omega
     rw[e1];simp only[Bool.false_or,show (false==false)=true from rfl,Bool.true_and];by_cases hne:Qb3 (padV p) b.1=true
     ·have hsame:padV p=b.1:=by
       simp only[Qb3,Zg,Ye] at hne;obtain⟨⟨⟨⟨⟨q0,q1⟩,q2⟩,q3⟩,q4⟩,q5⟩:=hne;cases hb:b.1;rw[hb] at q0 q1 q2 q3 q4 q5;simp only[padV] at *;simp[q0,q1,q2,q3,q4,q5]
      have hu:upd W b p=b:=by
       unfold upd;split
       ·exact Prod.ext hsame heq
       ·rfl
      rw[hne,hu];rfl
     ·have hne':Qb3 (padV p) b.1=false:=by simpa using hne
      rw[hne'];simp only[Bool.not_false,show (true==true)=true from rfl,QiR,hc,Za,Bool.true_and];by_cases hl0:cmpL (padV p).L b.1.L<0
      ·have hu:upd W b p=(padV p,dst W p):=Zc (.inr (.inr ⟨heq,hl0⟩));rw[Zc (by simpa using hl0),hu];rfl
      ·have hu:upd W b p=b:=Zd (by rintro (g | g | ⟨_,g⟩)<;>omega);rw[Zd (by simpa using hl0),hu];rfl
   | succ m=>
    have hlt:p.length<W.length:=by omega
    have hp6:p.length<6:=by omega
    rw[Zd (by simp;omega),QB7 h hp (by omega)];simp only[Za];obtain⟨r0,r1⟩:=Qzm h hp;have hW:=Qnc (p:=W) h.want (p.length:Int);have hset:∀v,(padV p).setI (p.length:Int) v=padV (p++[v]):=fun v=>Qj0 hp6;have pset:∀v u,(padV (p++[v])).setI (p.length:Int) u=padV (p++[u]):=fun v u=>by rw[←Qj0 hp6,←Qj0 hp6];exact set_set hp6
    -- one round
    have round0:∀(b:Qw×Int) (now:Qw) (v:Int),0≤v→v≤65536→(∀u,now.setI (p.length:Int) u=padV (p++[u]))→
      (((idx (now).L (p.length:Int)).bind fun t83=>(QdC v (nth W (p.length:Int))).bind fun t96=>(Qbe N (QA.mk L W D ((now).setI (p.length:Int) v) b.1 b.2) (i64.wrap ((p.length:Int)+(1:Int))) (i64.wrap (dst W p+t96))).bind fun t98=>(some t98)))=
      some ⟨L,W,D,padV (p++[v]),((QaH L W D m (p++[v])).foldl (upd W) b).1,((QaH L W D m (p++[v])).foldl (upd W) b).2⟩:=by
     intro b now v v0 v1 hnow;have hnp:NumP (p++[v]):=fun z hz=>by
      rcases Zp.1 hz with hz | hz
      ·exact hp z hz
      ·rw[Ze.1 hz];exact⟨v0,v1⟩
     have hf:=QtD (a:=v) (b:=nth W (p.length:Int)) ⟨v0,v1⟩ hW;have hf0:=QoR v (nth W (p.length:Int));rw[Qd7 (by omega) (by simp[Qw.L];omega)];simp only[Za];rw[far_is _ _ ⟨v0,v1⟩ hW];simp only[Za];have hb6:(p.length:Int) * 65536≤393216:=by omega
     rw[hnow,w64 (by omega) (by omega),w64 (by omega) (by omega),←Qi1 W p v hlt];have ih:=Qxg h m N (p++[v]) b (by omega) (by simp;omega) hnp;rw[show (((p++[v]).length:Nat):Int)=(p.length:Int)+1 by simp] at ih;rw[ih];rfl
    have round:∀(b:Qw×Int) (now:Qw) (v:Int),0≤v→v≤65536→(∀u,now.setI (p.length:Int) u=padV (p++[u]))→
      (((idx (now).L (p.length:Int)).bind fun t83=>(idx W (p.length:Int)).bind fun t94=>(QdC v t94).bind fun t96=>(Qbe N (QA.mk L W D ((now).setI (p.length:Int) v) b.1 b.2) (i64.wrap ((p.length:Int)+(1:Int))) (i64.wrap (dst W p+t96))).bind fun t98=>(some t98)))=
      some ⟨L,W,D,padV (p++[v]),((QaH L W D m (p++[v])).foldl (upd W) b).1,((QaH L W D m (p++[v])).foldl (upd W) b).2⟩:=by
     intro b now v v0 v1 hnow;rw[Qd7 (c:=W) (by omega) (by omega)];exact round0 b now v v0 v1 hnow
    have hleaf:QaH L W D (m+1) p=if (QaE L p).2<(QaE L p).1 then [] else if D.getD p.length false=true then (seqI (QaE L p).1 (QaE L p).2).flatMap fun v=>QaH L W D m (p++[v]) else QaH L W D m (p++[imin (imax (nth W (p.length:Int)) (QaE L p).1) (QaE L p).2]):=rfl;unfold QcP;by_cases hgt:(QaE L p).2<(QaE L p).1
    ·rw[Zc (by simpa using hgt),hleaf,Zc hgt];simp only[Za];rw[Qd7 (by omega) (by simp[Qw.L];omega)];simp only[Za];rw[hset,Qnb];rfl
    ·rw[Zd (by simpa using hgt),hleaf,Zd hgt];have hD:idx D (p.length:Int)=some (D.getD p.length false):=by
      have:p.length<D.length:=by have:=h.leads;omega
      rw[QX this,getD_lt' this]
     rw[hD];simp only[Za]
     cases hd:D.getD p.length false with
     | false=>
      rw[Zc (by decide),Zd (by decide),Qd7 (by omega) (by omega)];simp only[Za];have hv:0≤imin (imax (nth W (p.length:Int)) (QaE L p).1) (QaE L p).2∧imin (imax (nth W (p.length:Int)) (QaE L p).1) (QaE L p).2≤65536:=by constructor<;>(unfold imin imax;split<;>first | omega | (split<;>omega))
      rw[round0 b (padV p) _ hv.1 hv.2 hset];simp only[Za];rw[Qd7 (by omega) (by simp[Qw.L];omega)];simp only[Za];rw[Qzl hp6]
     | true=>
      rw[Zd (by decide),Zc rfl]
      let F:QA→Int→QA:=fun s v=>⟨L,W,D,padV (p++[v]),((QaH L W D m (p++[v])).foldl (upd W) (s.best,s.cost)).1,((QaH L W D m (p++[v])).foldl (upd W) (s.best,s.cost)).2⟩
      have hfold:∀(l:List Int) (b:Qw×Int) (now:Qw),(∀u,now.setI (p.length:Int) u=padV (p++[u]))→∃now',l.foldl F ⟨L,W,D,now,b.1,b.2⟩=⟨L,W,D,now',((l.flatMap fun v=>QaH L W D m (p++[v])).foldl (upd W) b).1,((l.flatMap fun v=>QaH L W D m (p++[v])).foldl (upd W) b).2⟩∧∀u,now'.setI (p.length:Int) u=padV (p++[u]):=by
       intro l
       induction l with
       | nil=>intro b now hn;exact⟨now,rfl,hn⟩
       | cons v l ih=>intro b now hn;rw[foldl_cons,flatMap_cons,foldl_append];exact ih _ _ (pset v)
      rw[QpD (S:=QA) (Y:=fun s v=>(idx (s).now.L (p.length:Int)).bind fun t83=>(idx s.want (p.length:Int)).bind fun t94=>(QdC v t94).bind fun t96=>(Qbe N (QA.mk s.limits s.want s.leads ((s).now.setI (p.length:Int) v) s.best s.cost) (i64.wrap ((p.length:Int)+(1:Int))) (i64.wrap (dst W p+t96))).bind fun t98=>(some t98)) F (fun s=>∃(b:Qw×Int) (now:Qw),s=⟨L,W,D,now,b.1,b.2⟩∧∀u,now.setI (p.length:Int) u=padV (p++[u])) r1 _ _ _ rfl r0 (by omega) ⟨b,padV p,rfl,hset⟩ (fun s v hs hv0 hv1=>?_)]
      ·obtain⟨now',e1,e2⟩:=hfold (seqI (QaE L p).1 (QaE L p).2) b (padV p) hset;rw[e1];simp only[Za];rw[Qd7 (by omega) (by simp[Qw.L];omega)];simp only[Za];rw[e2,Qnb]
      ·obtain⟨b',now,rfl,hn⟩:=hs;exact⟨round b' now v (by omega) (by omega) hn,⟨_,_,rfl,pset v⟩⟩
def Qj1 (L:List Qe) (x:List Int) (i:Nat):Prop:=(QaE L (x.take i)).1≤nth x (i:Int)∧nth x (i:Int)≤(QaE L (x.take i)).2
def Qj2 (y:Qe) (p:List Int) (v:Int):Prop:=if y.Least=true then bndS y p≤v else v≤bndS y p
def QpE {p:List Int} {v:Int}:∀(L:List Qe) (r:Int×Int),
  (let s:=L.foldl (fun r l=>if (l.A !=(p.length:Int)||decide (l.B≥(p.length:Int)))=true then r else if l.Least=true then (imax r.1 (bndS l p),r.2) else (r.1,imin r.2 (bndS l p))) r;(s.1≤v∧v≤s.2))↔
  ((r.1≤v∧v≤r.2)∧∀y∈L,y.A=(p.length:Int)→y.B<(p.length:Int)→Qj2 y p v)
 | [],r=>by simp
 | y::L,r=>by
  rw[foldl_cons];refine (QpE L _).trans ?_;by_cases hs:(y.A !=(p.length:Int)||decide (y.B≥(p.length:Int)))=true
  ·rw[Zc hs];have hs':¬(y.A=(p.length:Int)∧y.B<(p.length:Int)):=by
    simp only[Zz,bne_iff_ne,YB,Zj] at hs;omega
   constructor
   ·rintro ⟨h1,h2⟩;refine⟨h1,fun z hz ha hb=>?_⟩;rcases Zm.1 hz with rfl | hz
    ·exact absurd ⟨ha,hb⟩ hs'
    ·exact h2 z hz ha hb
   ·rintro ⟨h1,h2⟩;exact⟨h1,fun z hz=>h2 z (Zl _ hz)⟩
  ·rw[Zd hs];have hs':y.A=(p.length:Int)∧y.B<(p.length:Int):=by
    simp only[Zz,bne_iff_ne,YB,Zj] at hs;omega
   have hk:((if y.Least=true then (imax r.1 (bndS y p),r.2) else (r.1,imin r.2 (bndS y p)):Int×Int).1≤v∧v≤(if y.Least=true then (imax r.1 (bndS y p),r.2) else (r.1,imin r.2 (bndS y p)):Int×Int).2)↔((r.1≤v∧v≤r.2)∧Qj2 y p v):=by unfold Qj2 imax imin;cases y.Least<;>simp only[ZU,if_false,if_true]<;>split<;>omega
   rw[hk];constructor
   ·rintro ⟨⟨h1,h3⟩,h2⟩;refine⟨h1,fun z hz ha hb=>?_⟩;rcases Zm.1 hz with rfl | hz
    ·exact h3
    ·exact h2 z hz ha hb
   ·rintro ⟨h1,h2⟩;exact⟨⟨h1,h2 y (Zk ..) hs'.1 hs'.2⟩,fun z hz=>h2 z (Zl _ hz)⟩
def Qnd (L:List Qe) (p:List Int) (v:Int):((QaE L p).1≤v∧v≤(QaE L p).2)↔((0≤v∧v≤65536)∧∀y∈L,y.A=(p.length:Int)→y.B<(p.length:Int)→Qj2 y p v):=QpE L (0,65536)
def Qxh {p q:List Int} (hl:p.length=q.length):∀(L:List Qe),(∀y∈L,y.A=(p.length:Int)→y.B<(p.length:Int)→bndS y p=bndS y q)→QaE L p=QaE L q:=by
 unfold QaE;rw[←hl];generalize ((0,65536):Int×Int)=r;intro L
 induction L generalizing r with
 | nil=>intro _;rfl
 | cons y L ih=>
  intro h;rw[foldl_cons,foldl_cons,ih _ (fun z hz=>h z (Zl _ hz))];by_cases hs:(y.A !=(p.length:Int)||decide (y.B≥(p.length:Int)))=true
  ·rw[Zc hs,Zc hs]
  ·rw[Zd hs,Zd hs];simp only[Zz,bne_iff_ne,YB,Zj] at hs;rw[h y (Zk ..) (by omega) (by omega)]
def Qzo {lo hi v:Int}:v∈seqI lo hi↔lo≤v∧v≤hi:=by
 unfold seqI;simp only[ZC,ZH];constructor
 ·rintro ⟨i,h,rfl⟩;omega
 ·intro h;exact⟨(v - lo).toNat,by omega,by omega⟩
def Qh0 (L:List Qe) (W p:List Int):Int:=imin (imax (nth W (p.length:Int)) (QaE L p).1) (QaE L p).2
def QpF {L:List Qe} {W:List Int} {D:List Bool} {m:Nat} {p x:List Int}:x∈QaH L W D (m+1) p↔
  ∃v,((QaE L p).1≤v∧v≤(QaE L p).2)∧(D.getD p.length false=true∨v=Qh0 L W p)∧x∈QaH L W D m (p++[v]):=by
 have e:QaH L W D (m+1) p=if (QaE L p).2<(QaE L p).1 then [] else if D.getD p.length false=true then (seqI (QaE L p).1 (QaE L p).2).flatMap fun v=>QaH L W D m (p++[v]) else QaH L W D m (p++[Qh0 L W p]):=rfl;rw[e];by_cases h:(QaE L p).2<(QaE L p).1
 ·rw[Zc h];constructor
  ·intro h';simp at h'
  ·rintro ⟨v,h',_⟩;omega
 ·rw[Zd h];by_cases hd:D.getD p.length false=true
  ·rw[Zc hd];simp only[ZG,Qzo];constructor
   ·rintro ⟨v,hv,hx⟩;exact⟨v,hv,.inl hd,hx⟩
   ·rintro ⟨v,hv,_,hx⟩;exact⟨v,hv,hx⟩
  ·rw[Zd hd];constructor
   ·intro hx;refine⟨Qh0 L W p,?_,.inr rfl,hx⟩;unfold Qh0;constructor<;>(unfold imin imax;split<;>first | omega | (split<;>omega))
   ·rintro ⟨v,_,hv,hx⟩;rcases hv with hv | rfl
    ·exact absurd hv hd
    ·exact hx
def QrL {x:List Int} {i:Nat} {j:Int} (h0:0≤j) (h1:j<(i:Int)):nth (x.take i) j=nth x j:=by unfold nth;rw[Zh,Zh,getElem?_take_of_lt (by omega)]
def QpG {x:List Int} {i:Nat} (h:i<x.length):x.take (i+1)=x.take i++[nth x (i:Int)]:=by rw[Zu h];unfold nth;rw[Zr,getD_lt' h]
def QtE {L:List Qe} {W:List Int} {D:List Bool}:∀(m:Nat) (p:List Int),p.length+m=W.length→∀x∈QaH L W D m p,
  x.length=W.length∧x.take p.length=p∧∀i,p.length≤i→i<W.length→Qj1 L x i
 | 0,p,h,x,hx=>by
  have:x=p:=by simpa[QaH] using hx
  subst this;exact⟨by omega,take_length,fun i h1 h2=>by omega⟩
 | m+1,p,h,x,hx=>by
  obtain⟨v,hv,_,hx⟩:=QpF.1 hx;obtain⟨h1,h2,h3⟩:=QtE m (p++[v]) (by simp;omega) x hx;rw[show (p++[v]).length=p.length+1 by simp] at h2 h3;have h4:x.take p.length=p:=by have:=ZF (take p.length) h2;rw[take_take,take_append_of_le_length (Zx _),take_length,show min p.length (p.length+1)=p.length by omega] at this;exact this
  have h5:nth x (p.length:Int)=v:=by have e:=QpG (x:=x) (i:=p.length) (by omega);rw[h2,h4] at e;exact ((List.cons.inj (append_cancel_left e)).1).symm
  refine⟨h1,h4,fun i h6 h7=>?_⟩;by_cases h8:i=p.length
  ·subst h8;unfold Qj1;rw[h4,h5];exact hv
  ·exact h3 i (by omega) h7
def QpH {L:List Qe} {W:List Int} {D:List Bool} (hD:∀y∈L,0≤y.B→D.getD y.B.toNat false=true) {o:List Int} (ho:o.length=W.length):
  ∀(m:Nat) (p:List Int),p.length+m=W.length→(∀j:Nat,j<p.length→D.getD j false=true→nth p (j:Int)=nth o (j:Int))→dst W p≤dst W (o.take p.length)→(∀i,p.length≤i→i<W.length→Qj1 L o i)→∃x∈QaH L W D m p,dst W x≤dst W o
 | 0,p,h,_,hd,_=>by refine⟨p,by simp[QaH],?_⟩;rw[ZD (by omega)] at hd;exact hd
 | m+1,p,h,hp,hd,hr=>by
  have hlt:p.length<o.length:=by omega
  have hl:(o.take p.length).length=p.length:=by rw[Yb];omega
  have hroom:QaE L p=QaE L (o.take p.length):=Qxh hl.symm L fun y hy _ hb=>by
   unfold bndS;by_cases h0:y.B<0
   ·rw[Zc h0,Zc h0]
   ·rw[Zd h0,Zd h0,QrL (by omega) hb];have:=hp y.B.toNat (by omega) (hD y hy (by omega));rw[Int.toNat_of_nonneg (by omega)] at this;rw[this]
  have hin:=hr p.length (Zx _) (by omega);unfold Qj1 at hin;rw[←hroom] at hin;have key:∃v,((QaE L p).1≤v∧v≤(QaE L p).2)∧(D.getD p.length false=true∨v=Qh0 L W p)∧(D.getD p.length false=true→v=nth o (p.length:Int))∧farS v (nth W (p.length:Int))≤farS (nth o (p.length:Int)) (nth W (p.length:Int)):=by
   by_cases hd:D.getD p.length false=true
   ·exact⟨_,hin,.inl hd,fun _=>rfl,Zy _⟩
   ·refine⟨Qh0 L W p,?_,.inr rfl,fun h=>absurd h hd,?_⟩
    ·unfold Qh0;constructor<;>(unfold imin imax;split<;>first | omega | (split<;>omega))
    ·unfold Qh0 farS imin imax;split<;>split<;>split<;>split<;>omega
  obtain⟨v,k1,k2,k3,k4⟩:=key;obtain⟨x,hx,hx'⟩:=QpH hD ho m (p++[v]) (by simp;omega) (fun j hj hdj=>by
   rw[QoQ (by omega)];by_cases e:j=p.length
   ·subst e;rw[Zc rfl];exact k3 hdj
   ·rw[Zd (by omega)];have:j<p.length:=by simp at hj;omega
    exact hp j this hdj) (by
   rw[show (p++[v]).length=p.length+1 by simp,QpG hlt,Qi1 W p v (by omega),Qi1 W (o.take p.length) _ (by omega),hl];omega) (fun i hi hi'=>hr i (by simp at hi;omega) hi')
  exact⟨x,QpF.2 ⟨v,k1,k2,hx⟩,hx'⟩
def QmL {y:Qe} {x:List Int} (h0:0≤y.A) (hBA:y.B<y.A):Qj2 y (x.take y.A.toNat) (nth x y.A)↔QeB y x=true:=by
 have e:bndS y (x.take y.A.toNat)=bndS y x:=by
  unfold bndS;by_cases hb:y.B<0
  ·rw[Zc hb,Zc hb]
  ·rw[Zd hb,Zd hb,QrL (by omega) (by omega)]
 unfold Qj2 QeB;rw[e];cases y.Least<;>simp
def QpI {L:List Qe} {x:List Int} (hv:∀y∈L,VL y (x.length:Int)) (hBA:∀y∈L,y.B<y.A):(∀i,i<x.length→Qj1 L x i)↔(NumP x∧∀y∈L,QeB y x=true):=by
 constructor
 ·intro h;refine⟨fun z hz=>?_,fun y hy=>?_⟩
  ·obtain⟨i,hi,rfl⟩:=Yc hz;have:=((Qnd _ _ _).1 (h i hi)).1;unfold nth at this;rw[Zr,getD_lt' hi] at this;exact this
  ·have a0:=(hv y hy).a0;have a1:=(hv y hy).a1;have hi:y.A.toNat<x.length:=by omega
   have hl:(x.take y.A.toNat).length=y.A.toNat:=by rw[Yb];omega
   have:=((Qnd _ _ _).1 (h _ hi)).2 y hy (by rw[hl];omega) (by rw[hl];have:=hBA y hy;omega);rw[Int.toNat_of_nonneg a0] at this;exact (QmL a0 (hBA y hy)).1 this
 ·rintro ⟨h1,h2⟩ i hi;refine (Qnd _ _ _).2 ⟨Qnc h1 _,fun y hy ha _=>?_⟩;have hl:(x.take i).length=i:=by rw[Yb];omega
  rw[hl] at ha;have:=(QmL (x:=x) (hv y hy).a0 (hBA y hy)).2 (h2 y hy);rw[ha,Zr] at this;exact this
def Qmn {W:List Int}:∀(l:List (List Int)) (b:Qw×Int),0≤b.2→
  0≤(l.foldl (upd W) b).2∧(l.foldl (upd W) b).2≤b.2∧(∀x∈l,(l.foldl (upd W) b).2≤dst W x)∧(l.foldl (upd W) b=b∨∃x∈l,l.foldl (upd W) b=(padV x,dst W x))
 | [],b,h=>⟨h,Zy _,by simp,.inl rfl⟩
 | x::l,b,h=>by
  rw[foldl_cons];have hx:=Qn4 W x;by_cases hc:b.2<0∨dst W x<b.2∨(dst W x=b.2∧cmpL (padV x).L b.1.L<0)
  ·have e:upd W b x=(padV x,dst W x):=Zc hc;rw[e];obtain⟨h1,h2,h3,h4⟩:=Qmn (W:=W) l (padV x,dst W x) hx;dsimp only at h2;refine⟨h1,by omega,fun z hz=>?_,.inr ?_⟩
   ·rcases Zm.1 hz with rfl | hz
    ·exact h2
    ·exact h3 z hz
   ·rcases h4 with h4 | ⟨z,hz,h4⟩
    ·exact⟨x,Zk ..,h4⟩
    ·exact⟨z,Zl _ hz,h4⟩
  ·have e:upd W b x=b:=Zd hc;rw[e];obtain⟨h1,h2,h3,h4⟩:=Qmn (W:=W) l b h;refine⟨h1,h2,fun z hz=>?_,?_⟩
   ·rcases Zm.1 hz with rfl | hz
    ·omega
    ·exact h3 z hz
   ·rcases h4 with h4 | ⟨z,hz,h4⟩
    ·exact .inl h4
    ·exact .inr ⟨z,Zl _ hz,h4⟩
def Qdg (L:List Qe) (W:List Int) (D:List Bool):Qw×Int:=(QaH L W D W.length []).foldl (upd W) (padV [],-1)
def Qxi {L:List Qe} {W:List Int} {D:List Bool}:(Qdg L W D).2<0↔QaH L W D W.length []=[]:=by
 unfold Qdg
 cases QaH L W D W.length [] with
 | nil=>simp
 | cons x l=>rw[foldl_cons];have e:upd W (padV [],-1) x=(padV x,dst W x):=Zc (.inl (by decide));rw[e];have:=(Qmn (W:=W) l (padV x,dst W x) (Qn4 W x)).1;simp only[cons_ne_nil,iff_false];omega
def Qxj {L:List Qe} {W:List Int} {D:List Bool} (h:0≤(Qdg L W D).2):∃x∈QaH L W D W.length [],Qdg L W D=(padV x,dst W x)∧∀z∈QaH L W D W.length [],dst W x≤dst W z:=by
 unfold Qdg at h ⊢
 cases hl:QaH L W D W.length [] with
 | nil=>rw[hl] at h;simp at h
 | cons x l=>
  rw[foldl_cons];have e:upd W (padV [],-1) x=(padV x,dst W x):=Zc (.inl (by decide));rw[e];obtain⟨h1,h2,h3,h4⟩:=Qmn (W:=W) l (padV x,dst W x) (Qn4 W x);dsimp only at h2;rcases h4 with h4 | ⟨z,hz,h4⟩
  ·rw[h4] at h3;refine⟨x,Zk ..,h4,fun z hz=>?_⟩;rcases Zm.1 hz with rfl | hz
   ·exact Zy _
   ·exact h3 z hz
  ·rw[h4] at h2 h3;refine⟨z,Zl _ hz,h4,fun y hy=>?_⟩;rcases Zm.1 hy with rfl | hy
   ·exact h2
   ·exact h3 y hy
def QcT (L:List Qe) (n:Nat):List Bool:=L.foldl (fun d y=>if y.B≥0 then d.set y.B.toNat true else d) (replicate n false)
def QpJ:∀(L:List Qe) (d:List Bool),(L.foldl (fun d y=>if y.B≥0 then d.set y.B.toNat true else d) d).length=d.length
 | [],d=>rfl
 | y::L,d=>by
  rw[foldl_cons,QpJ L];split
  ·exact Yv
  ·rfl
def Qn6:∀(L:List Qe) (d:List Bool) (j:Nat),d.getD j false=true→(L.foldl (fun d y=>if y.B≥0 then d.set y.B.toNat true else d) d).getD j false=true
 | [],d,j,h=>h
 | y::L,d,j,h=>by
  rw[foldl_cons];refine Qn6 L _ j ?_;split
  ·rw[Zh,getElem?_set];rw[Zh] at h;by_cases e:y.B.toNat=j
   ·subst e;rw[Zc rfl];split
    ·rfl
    ·rename_i hh;rw[getElem?_eq_none (by omega)] at h;exact h
   ·rw[Zd e];exact h
  ·exact h
def Qn7:∀(L:List Qe) (d:List Bool),(∀y∈L,y.B<(d.length:Int))→∀y∈L,0≤y.B→(L.foldl (fun d y=>if y.B≥0 then d.set y.B.toNat true else d) d).getD y.B.toNat false=true
 | [],d,_,y,hy,_=>by cases hy
 | z::L,d,hL,y,hy,hb=>by
  rw[foldl_cons];rcases Zm.1 hy with rfl | hy
  ·refine Qn6 L _ _ ?_;rw[Zc hb];have:=hL y (Zk ..);rw[Zh,getElem?_set,Zc rfl,Zc (by omega)];rfl
  ·refine Qn7 L _ (fun w hw=>?_) y hy hb;have:=hL w (Zl _ hw);split
   ·rw[Yv];exact this
   ·exact this
def Qeq (x:Qa) (d:List Bool):Nat→Int
 | 0=>1
 | k+1=>match x.Kinds[k]? with
  | some q=>if (d.getD k false&&decide (Qeq x d k≤131072))=true then Qeq x d k * (q.Hi - q.Lo+1) else Qeq x d k
  | none=>Qeq x d k
noncomputable def QfF (x:Qa) (L:List Qe) (want:List Int):List Int×Int:=
 if want.length≠x.Kinds.length∨numL want=false then ([],1)
 else if 131072<Qeq x (QcT L want.length) x.Kinds.length then ([],4)
 else if (Qdg L want (QcT L want.length)).2<0 then ([],14)
 else ((Qdg L want (QcT L want.length)).1.L.take want.length,0)
def VL.weak {y:Qe} {a b:Int} (h:VL y a) (hab:a≤b):VL y b:=⟨h.a0,by have:=h.a1;omega,h.b0,by have:=h.b1;omega,h.m0,h.m1⟩
def QtF {c:List Int}:numL c=true↔NumP c:=by unfold numL NumP isN;simp[Zt]
def QB8 {x:Qa} {want:List Int} {L:List Qe} {nm:List Str} (hLim:Qb0 x=some (L,nm,0)) (hk:x.Kinds.length≤6) (hK:∀k∈x.Kinds,0≤k.Lo∧k.Lo≤k.Hi∧k.Hi≤65536)
  (hL:∀y∈L,VL y (x.Kinds.length:Int)) (hf:L.length≤1000000) (hw:want.length≤1000000):QeU x want=some (QfF x L want):=by
 unfold QeU;rw[hLim];simp only[Za];rw[Zd (by decide)];unfold QfF;have hq:∀z∈want,QeS z=some (!isN z):=fun z _=>by unfold QeS;rfl
 by_cases hn:want.length=x.Kinds.length
 ·have e0:((want.length:Int) !=(x.Kinds.length:Int))=false:=by simp[hn]
  rw[e0];simp only[show (false==false)=true from rfl,QiR,Bool.false_or];rw[anyInt hw hq];simp only[Za];by_cases ha:numL want=true
  ·have ea:(want.any fun z=>!isN z)=false:=by
    unfold numL at ha;rw[any_eq_false];intro z hz;have:=Zt.1 ha z hz;simp[this]
   have hW:=QtF.1 ha;rw[ea,Zd (by decide),Zd (by simp[hn,ha]),QiQ _ _ (by omega)];simp only[Za]
   let st:Nat→List Bool:=fun k=>(L.take k).foldl (fun d y=>if y.B≥0 then d.set y.B.toNat true else d) (replicate want.length false)
   have hst:∀k,(st k).length=want.length:=fun k=>by exact (QpJ (L.take k) _).trans Yl
   refine QbT L.length (fun k=>((k:Int),st k)) (st L.length) rfl (fun k hk'=>?_) ?_ ?_
   ·dsimp only;have es:st (k+1)=if L[k].B≥0 then (st k).set L[k].B.toNat true else st k:=by
     show (L.take (k+1)).foldl _ _=_;rw[Zu hk',foldl_append];rfl
    rw[Zc (by simpa using hk'),QX hk'];simp only[Za,es,QH hk' (show L.length≤9223372036854775807 by omega)];have hb1:=(hL _ (Zn hk')).b1;by_cases hb:L[k].B≥0
    ·rw[Zc (by simpa using hb),Zc hb];have hs:setAt (st k) L[k].B true=some ((st k).set L[k].B.toNat true):=by
      unfold setAt;rw[Zc ⟨hb,by rw[hst];omega⟩]
     rw[hs];rfl
    ·rw[Zd (by simpa using hb),Zd hb];rfl
   ·dsimp only;rw[Zd (by simp)]
   ·have eD:st L.length=QcT L want.length:=by show (L.take L.length).foldl _ _=_;rw[take_length];rfl
    rw[eD];have hDl:(QcT L want.length).length=want.length:=by rw[←eD];exact hst _
    generalize hD:QcT L want.length=D at hDl ⊢;have hp:∀k,k≤x.Kinds.length→0≤Qeq x D k∧Qeq x D k≤131072 * 65537:=by
     intro k
     induction k with
     | zero=>intro _;exact⟨show (0:Int)≤1 by decide,show (1:Int)≤131072 * 65537 by decide⟩
     | succ k ih=>
      intro h;obtain⟨i1,i2⟩:=ih (by omega);have hq:=hK _ (Zn (show k<x.Kinds.length by omega));unfold Qeq;rw[Zb (by omega)];dsimp only;split
      ·rename_i hc;simp only[Zg,Zj] at hc;refine⟨Int.mul_nonneg i1 (by omega),?_⟩;exact Int.mul_le_mul hc.2 (by omega) (by omega) (by decide)
      ·exact⟨i1,i2⟩
    refine QbT x.Kinds.length (fun k=>((k:Int),Qeq x D k)) (Qeq x D x.Kinds.length) rfl (fun k hk'=>?_) ?_ ?_
    ·dsimp only;have hkD:k<D.length:=by omega
     obtain⟨i1,i2⟩:=hp k (by omega);obtain⟨j1,j2⟩:=hp (k+1) (by omega);have hq:=hK _ (Zn hk');have es:Qeq x D (k+1)=if (D.getD k false&&decide (Qeq x D k≤131072))=true then Qeq x D k * (x.Kinds[k].Hi - x.Kinds[k].Lo+1) else Qeq x D k:=by rw[Qeq,Zb hk']
     rw[Zc (by simpa using hk'),QX hk',QX hkD,←getD_lt' (z:=false) hkD];simp only[Za,QH hk' (show x.Kinds.length≤9223372036854775807 by omega)];rw[es] at j1 j2 ⊢;by_cases hc:(D.getD k false&&decide (Qeq x D k≤131072))=true
     ·rw[Zc hc] at j1 j2;rw[Zc hc,Zc hc,w64 (n:=x.Kinds[k].Hi - x.Kinds[k].Lo) (by omega) (by omega),w64 (n:=x.Kinds[k].Hi - x.Kinds[k].Lo+1) (by omega) (by omega),w64 (by omega) (by omega)];rfl
     ·rw[Zd hc,Zd hc];rfl
    ·dsimp only;rw[Zd (by simp)]
    ·by_cases hpr:131072<Qeq x D x.Kinds.length
     ·rw[Zc (by simpa using hpr),Zc hpr]
     ·rw[Zd (by simpa using hpr),Zd hpr];have hS:SrOk L want D:=⟨hf,fun y hy=>(hL y hy).weak (by omega),hW,by omega,hDl⟩;have ht:=Qxg hS want.length (want.length+2) [] (padV [],-1) (by omega) (by simp) (fun z hz=>by cases hz);have e0:dst want []=0:=by simp[dst]
      rw[e0] at ht;unfold Qek;rw[show zz7=padV [] from rfl];refine (ZF (Option.bind · _) ht).trans ?_;simp only[Za];show (if decide ((Qdg L want D).2<0)=true then _ else _)=_;by_cases hc:(Qdg L want D).2<0
      ·rw[Zc (by simpa using hc),Zc hc]
      ·rw[Zd (by simpa using hc),Zd hc];have hs:sub (Qdg L want D).1.L 0 (want.length:Int)=some ((Qdg L want D).1.L.take want.length):=by
        unfold sub;rw[Zc ⟨by omega,by omega,by simp[Qw.L];omega⟩];simp
       refine (ZF (Option.bind · _) hs).trans ?_;simp only[Za];unfold QcK;rw[Qb2 (by simp;omega)];rfl
  ·have ea:(want.any fun z=>!isN z)=true:=by
    simp only[numL,Zt] at ha;rw[Yj];simp only[Classical.not_forall] at ha;obtain⟨z,hz,hh⟩:=ha;exact⟨z,hz,by simpa using hh⟩
   rw[ea,Zc rfl,Zc (.inr (by simpa using ha))]
 ·have e0:((want.length:Int) !=(x.Kinds.length:Int))=true:=by simp;omega
  rw[e0,Zc (.inl hn)];rfl
def QtG {i j lo hi n:Int} {y:Qe} (h:y∈QhP Qe.mk i j lo hi) (h0:0≤i) (h1:i<n) (j0:-1≤j) (j1:j<i) (hl:0≤lo∧lo≤hi∧hi≤65536):VL y n∧y.B<y.A:=by
 simp only[QhP,Zm,Zv,ZE] at h;rcases h with rfl | rfl
 ·exact⟨⟨h0,h1,j0,by dsimp only;omega,hl.1,by dsimp only;omega⟩,j1⟩
 ·exact⟨⟨h0,h1,j0,by dsimp only;omega,by dsimp only;omega,hl.2.2⟩,j1⟩
def QmM {x:Qa} (hc:QY x=[]) {i j:Nat} (hi:i<x.Kinds.length) (hj:j<x.Kinds[i].Fields.length) (hk:x.Kinds[i].Fields[j].Kind=1):0≤Q9 x x.Kinds[i].Fields[j].Of∧Q9 x x.Kinds[i].Fields[j].Of<(i:Int):=by
 have hf:field? x (i:Int) (j:Int)=some x.Kinds[i].Fields[j]:=by unfold field?;rw[Zc ⟨by omega,by omega⟩,Zr,Zr,Zb hi,Za,Zb hj]
 have h:=Qrs (clean hc (QX hi) hf) (.inl hk);unfold upIx at h;rw[hf] at h;dsimp only at h;rw[Zd (by omega),Zc hk] at h;unfold QgF at h;split at h
 ·exact⟨h,by assumption⟩
 ·omega
def QlR {x:Qa} (hc:QY x=[]):∀y∈limL Qe.mk x,VL y (x.Kinds.length:Int)∧y.B<y.A:=by
 intro y hy;have hv:=Qav hc;unfold limL at hy;obtain⟨i,hi,hy⟩:=ZG.1 hy;rw[ZH] at hi;have hK:=hv.kind _ (Zn hi);unfold kndL at hy;rw[Zb hi] at hy;dsimp only at hy;rcases Zp.1 hy with hy | hy
 ·have hs:=hK;simp only[kindS,Zg] at hs;exact QtG hy (by omega) (by omega) (Zy _) (by omega) (Qcz hs.1.1.2)
 ·obtain⟨j,hj,hy⟩:=ZG.1 hy;rw[ZH] at hj;unfold fldL at hy;rw[Zb hj] at hy;dsimp only at hy;by_cases hk:x.Kinds[i].Fields[j].Kind=1
  ·rw[Zc (by simpa using hk)] at hy;obtain⟨r0,r1⟩:=QmM hc hi hj hk;have hF:=(QcF hK).2.2 _ (Zn hj);simp only[fieldS,Zg] at hF;have hp:=hF.2;unfold Qd0 at hp;rw[Zd (by omega),Zc hk,Zg] at hp;exact QtG hy (by omega) (by omega) (by omega) r1 (Qcz hp.2)
  ·rw[Zd (by simpa using hk)] at hy;cases hy
def QB9 {x:Qa} (hs:Qfh x) (hc:QY x=[]) {want:List Int} (hw:want.length≤1000000):QeU x want=some (QfF x (limL Qe.mk x) want):=by
 have hv:=Qav hc;have hl:Qb0 x=some (limL Qe.mk x,namL x,0):=by rw[QlK hs];unfold limR;rw[hc]
 have hn:=(Qy6 Qe.mk x).1;unfold limR at hn;rw[hc] at hn;dsimp only at hn;refine QB8 hl hv.kinds (fun k hk=>?_) (fun y hy=>(QlR hc y hy).1) (by omega) hw;have h:=hv.kind k hk;simp only[kindS,Zg] at h;exact Qcz h.1.1.2
def d0T:Dt:=(0,[],⟨0,0,0⟩)
def dK (x:Qa) (i:Nat):Int:=((Qaz x).getD i d0T).1
def dD (x:Qa) (i:Nat):Qz:=((Qaz x).getD i d0T).2.2
def flen (x:Qa) (k:Int):Nat:=match idx x.Kinds k with | some q=>q.Fields.length | none=>0
def ownI (x:Qa) (k:Int) (p:Nat→Bool):List Nat:=(range (Qaz x).length).filter fun i=>dK x i==k&&p i
def ownD (x:Qa) (k:Int) (p:Nat→Bool):List Qz:=(ownI x k p).map (dD x)
def cycN (x:Qa) (k:Int) (p:Nat→Bool):List Nat:=(cycS (flen x k:Int) (ownD x k p)).1.map fun c=>(ownI x k p).getD c.toNat 0
def DOk (n:Nat) (d:Qz):Prop:=-1≤d.A∧d.A<n∧-1≤d.B∧d.B<n∧d.A≠d.B∧-2097152≤d.N∧d.N≤2097152
def Qzp {f:Qc} (h:fieldS f=true) (hk:f.Kind=2∨f.Kind=4):-1048576≤f.Lo∧f.Lo≤f.Hi∧f.Hi≤1048576:=by
 simp only[fieldS,Zg] at h;have h:=h.2;unfold Qd0 at h;rcases hk with hk | hk
 ·rw[Zd (by omega),Zd (by omega),Zc hk] at h;exact Qcz h
 ·rw[Zd (by omega),Zd (by omega),Zd (by omega),Zd (by omega),Zc hk,Zg] at h;exact Qcz h.2
def Qne {x:Qa} {i j:Nat} (hi:i<x.Kinds.length) (hj:j<x.Kinds[i].Fields.length):field? x (i:Int) (j:Int)=some x.Kinds[i].Fields[j]:=by unfold field?;rw[Zc ⟨by omega,by omega⟩,Zr,Zr,Zb hi,Za,Zb hj]
def of_ok {x:Qa} (hc:QY x=[]) {i j:Nat} (hi:i<x.Kinds.length) (hj:j<x.Kinds[i].Fields.length):-1≤ofIx x.Kinds[i] x.Kinds[i].Fields[j]∧ofIx x.Kinds[i] x.Kinds[i].Fields[j]<(j:Int):=by
 unfold ofIx;split
 ·next h=>simp only[Zg,Ye,bne_iff_ne,YB] at h;have hl:=clean hc (QX hi) (Qne hi hj);unfold Qhi at hl;rw[Zd (by omega),Zd (by omega),Zc h.1] at hl;have h2:=(Qcq hl (by decide)).1;have hne:(x.Kinds[i].Fields[j].Of !=[])=true:=bne_iff_ne.2 h.2;rw[hne,Bool.true_and] at h2;simp only[Bool.or_eq_false_iff,ZI] at h2;exact⟨by omega,by omega⟩
 ·omega
def Qn8 {x:Qa} {r:Qo} {n:Str} (hm:Qfg x (Q9 x r.Kind) n=false) (h0:0≤Q9 x r.Kind) (hn:n≠[]) {q:Qg} (hq:idx x.Kinds (Q9 x r.Kind)=some q):0≤Qai q n:=by
 unfold Qfg at hm;have e:((n==[])||decide (Q9 x r.Kind<0))=false:=by simp only[Bool.or_eq_false_iff,ZI,beq_eq_false_iff_ne];exact⟨hn,by omega⟩
 rw[e] at hm;simp only[Bool.not_false,Bool.true_and,Bool.not_eq_false'] at hm;unfold QiX at hm;rw[hq] at hm;dsimp only at hm
 cases hf:field? x (Q9 x r.Kind) (Qai q n) with
 | none=>rw[hf] at hm;cases hm
 | some g=>obtain⟨_,_,hj,_⟩:=Qgd hf;exact hj
def Qi2 {q:Qg} {n:Str} (h:0≤Qai q n):∃f,idx q.Fields (Qai q n)=some f∧f.Name=n:=by
 unfold Qai QaF at h ⊢
 cases hf:q.Fields.findIdx? fun f=>f.Name==n with
 | none=>rw[hf] at h;dsimp only at h;omega
 | some k=>dsimp only;obtain⟨hk,hp,_⟩:=ZP.1 hf;exact⟨q.Fields[k],QX hk,by simpa using hp⟩
def Qsy {q:Qg} (hq:kindS q=true):Qai q []=-1:=by
 rcases Int.lt_or_le (Qai q []) 0 with h | h
 ·have:=(Qgc q.Fields fun f=>f.Name==([]:Str)).1;unfold Qai at h ⊢;omega
 ·obtain⟨f,hf,hn⟩:=Qi2 h;have hF:=(QcF hq).2.2 f (by
   obtain⟨k,hk⟩:=Zw h;rw[hk,Qci] at hf;exact Zq hf)
  simp only[fieldS,Zg] at hF;have:=hF.1.1;rw[hn] at this;exact absurd this (by decide)
def Qk1 (q:Qg) (n:Str):-1≤Qai q n∧Qai q n<q.Fields.length:=Qgc q.Fields _
def QCa {x:Qa} (hc:QY x=[]):∀t∈Qaz x,∃q,0≤t.1∧idx x.Kinds t.1=some q∧DOk q.Fields.length t.2.2:=by
 intro t ht;have hv:=Qav hc;unfold Qaz at ht;rcases Zp.1 ht with ht | ht
 ·obtain⟨i,hi,ht⟩:=ZG.1 ht;rw[ZH] at hi;unfold kndT at ht;rw[Zb hi] at ht;obtain⟨j,hj,ht⟩:=ZG.1 ht;rw[ZH] at hj;unfold fldT at ht;rw[Zb hj] at ht;dsimp only at ht;obtain⟨o0,o1⟩:=of_ok hc hi hj;split at ht
  ·cases ht
  ·next hk=>
   have hk':x.Kinds[i].Fields[j].Kind=2∨x.Kinds[i].Fields[j].Kind=4:=by
    simp only[Zg,bne_iff_ne,YB,not_and,Classical.not_not] at hk;by_cases h2:x.Kinds[i].Fields[j].Kind=2
    ·exact .inl h2
    ·exact .inr (hk h2)
   have hp:=Qzp ((QcF (hv.kind _ (Zn hi))).2.2 _ (Zn hj)) hk';have hw:i64.wrap (0 - x.Kinds[i].Fields[j].Lo)=0 - x.Kinds[i].Fields[j].Lo:=w64 (by omega) (by omega);simp only[Zm,Zv,ZE] at ht;refine⟨x.Kinds[i],?_⟩;rcases ht with rfl | rfl
   ·exact⟨by dsimp only;omega,QX hi,o0,by dsimp only;omega,by dsimp only;omega,by dsimp only;omega,by dsimp only;omega,by dsimp only;rw[hw];omega,by dsimp only;rw[hw];omega⟩
   ·exact⟨by dsimp only;omega,QX hi,by dsimp only;omega,by dsimp only;omega,o0,by dsimp only;omega,by dsimp only;omega,by dsimp only;omega,by dsimp only;omega⟩
 ·obtain⟨i,hi,ht⟩:=ZG.1 ht;rw[ZH] at hi;have hr:=Zb hi;obtain⟨q,hq0,hq,hm⟩:=Qjl hc hr;unfold rulT at ht;rw[hr] at ht;dsimp only at ht;rw[hq] at ht;dsimp only at ht;obtain rfl:=Ze.1 ht;have hz:=QlL hc hr;unfold Qii at hz;have z1:=(Qcq hz (by decide)).2;have z2:=Qcq z1 (by decide);have z3:=Qcq z2.2 (by decide);have z4:=Qcq z3.2 (by decide);have hne:x.Rules[i].A≠x.Rules[i].B:=by simpa using z4.1
  have hmiss:=z2.1;simp only[Bool.or_eq_false_iff] at hmiss;have hR:=hv.rule _ (Zn hi);have hn:-1048576≤x.Rules[i].N∧x.Rules[i].N≤1048576:=by simp only[QcQ,Zg] at hR;exact QbU hR.2
  have a:=Qk1 q x.Rules[i].A;have b:=Qk1 q x.Rules[i].B;refine⟨q,hq0,hq,a.1,a.2,b.1,b.2,fun e=>?_,by dsimp only;omega,by dsimp only;omega⟩;dsimp only at e;by_cases hA:x.Rules[i].A=[]
  ·have h1:Qai q x.Rules[i].A=-1:=by rw[hA];exact Qsy (hv.kind q hm)
   have h2:=Qn8 hmiss.2 hq0 (fun h=>hne (hA.trans h.symm)) hq;omega
  ·have h1:=Qn8 hmiss.1.2 hq0 hA hq;obtain⟨f,hf,hfn⟩:=Qi2 h1;rw[e] at hf;obtain⟨g,hg,hgn⟩:=Qi2 (q:=q) (n:=x.Rules[i].B) (by omega);rw[hg] at hf;obtain rfl:=Zs hf;exact hne (hfn.symm.trans hgn)
def QpK {α:Type} (F:Nat→List α) (key:α→Int) (hF:∀i,∀a∈F i,key a=(i:Int)) (k:Int) (B:Nat):∀n,(∀i,i<n→(F i).length≤B)→(((range n).flatMap F).filter fun a=>key a==k).length≤if k<n then B else 0
 | 0,_=>by simp
 | n+1,h=>by
  have ih:=QpK F key hF k B n fun i hi=>h i (by omega);rw[Yf,ZM,filter_append,Zi,Yt];have hn:=h n (by omega);by_cases e:(n:Int)=k
  ·have h1:((F n).filter fun a=>key a==k).length≤(F n).length:=length_filter_le _ _;rw[Zd (by omega)] at ih;rw[Zc (by omega)];omega
  ·have h1:((F n).filter fun a=>key a==k)=[]:=by
    rw[filter_eq_nil_iff];intro a ha;rw[hF n a ha];simpa using e
   rw[h1,ZS];by_cases h2:k<n
   ·rw[Zc h2] at ih;rw[Zc (by omega)];omega
   ·rw[Zd h2] at ih;rw[Zd (by omega)];omega
def QCb (x:Qa) (i:Nat):∀t∈kndT x i,t.1=(i:Int):=by
 intro t ht;unfold kndT at ht
 cases hq:x.Kinds[i]? with
 | none=>rw[hq] at ht;cases ht
 | some q=>
  rw[hq] at ht;obtain⟨j,_,ht⟩:=ZG.1 ht;unfold fldT at ht
  cases hf:q.Fields[j]? with
  | none=>rw[hf] at ht;cases ht
  | some f=>
   rw[hf] at ht;dsimp only at ht;split at ht
   ·cases ht
   ·simp only[Zm,Zv,ZE] at ht;rcases ht with rfl | rfl<;>rfl
def QrM {α:Type} (l:List α) (d:α) (p:α→Bool):((range l.length).filter fun i=>p (l.getD i d)).length=(l.filter p).length:=by
 have e:l=(range l.length).map fun i=>l.getD i d:=by refine ext_getElem (by simp) fun i h1 h2=>?_;simp[Zh,h1]
 have:=ZF (fun m=>(m.filter p).length) e;rw[this,filter_map,ZT];rfl
def QkP {x:Qa} {k:Int} {p:Nat→Bool} {i:Nat}:i∈ownI x k p↔i<(Qaz x).length∧dK x i=k∧p i=true:=by unfold ownI;rw[Yn,ZH];simp
def Qzq {x:Qa} (hv:Qfz x) (k:Int) (p:Nat→Bool):(ownI x k p).length≤36:=by
 have h1:(ownI x k p).length≤((range (Qaz x).length).filter fun i=>((Qaz x).getD i d0T).1==k).length:=by
  unfold ownI;have:((range (Qaz x).length).filter fun i=>dK x i==k&&p i)=(((range (Qaz x).length).filter fun i=>((Qaz x).getD i d0T).1==k).filter p):=by
   rw[filter_filter];congr 1
   funext i
   unfold dK;exact Bool.and_comm _ _
  rw[this];exact length_filter_le _ _
 rw[QrM (Qaz x) d0T (fun t=>t.1==k)] at h1;unfold Qaz at h1;rw[filter_append,Zi] at h1;have h2:=QpK (kndT x) (fun t=>t.1) (QCb x) k 20 x.Kinds.length fun i _=>QhH hv i;have h3:(((range x.Rules.length).flatMap (rulT x)).filter fun t=>t.1==k).length≤((range x.Rules.length).flatMap (rulT x)).length:=length_filter_le _ _;have h4:=Qa7 x.Rules.length (rulT x) 1 fun j _=>QkK x j;have h5:=hv.rules;split at h2<;>omega
def Qn9 {x:Qa} {i:Nat} (h:i<(Qaz x).length):(Qaz x).getD i d0T=(Qaz x)[i]:=by rw[Zh,Zb h];rfl
def Qg1 {x:Qa} (hc:QY x=[]) {k:Int} (k0:0≤k) (k1:k<x.Kinds.length) (p:Nat→Bool):QcG (flen x k+1) (ownD x k p):=by
 have hv:=Qav hc;obtain⟨i,rfl⟩:=Zw k0;have hi:i<x.Kinds.length:=by omega
 have hf:flen x (i:Int)=x.Kinds[i].Fields.length:=by unfold flen;rw[QX hi]
 have hf10:=(QcF (hv.kind _ (Zn hi))).2.1;refine⟨by omega,by rw[hf];omega,?_,fun d hd=>?_⟩
 ·unfold ownD;rw[ZT];have:=Qzq hv (i:Int) p;omega
 ·obtain⟨j,hj,rfl⟩:=ZC.1 hd;obtain⟨h1,h2,_⟩:=QkP.1 hj;obtain⟨q,_,hq,hd⟩:=QCa hc _ (Zn h1);unfold dK at h2;rw[Qn9 h1] at h2;rw[h2,QX hi] at hq;obtain rfl:=Zs hq;unfold dD;rw[Qn9 h1,hf];obtain⟨a1,a2,a3,a4,a5,a6,a7⟩:=hd;exact⟨a1,by omega,a3,by omega,a5,a6,a7⟩
def NegK (x:Qa) (k:Int) (I:Nat→Prop):Prop:=∃i es,walk i i es∧esum es<0∧∀e∈es,∃j,j<(Qaz x).length∧dK x j=k∧I j∧e=edN (flen x k+1) (dD x j)
def NegK.mono {x:Qa} {k:Int} {I J:Nat→Prop} (h:NegK x k I) (hIJ:∀j,dK x j=k→I j→J j):NegK x k J:=by obtain⟨i,es,h1,h2,h3⟩:=h;refine⟨i,es,h1,h2,fun e he=>?_⟩;obtain⟨j,j1,j2,j3,j4⟩:=h3 e he;exact⟨j,j1,j2,hIJ j j2 j3,j4⟩
def QtH {x:Qa} (hc:QY x=[]) {k:Int} (k0:0≤k) (k1:k<x.Kinds.length) (p:Nat→Bool):negB (flen x k+1) (tP (flen x k+1) (ownD x k p))=true↔NegK x k fun j=>p j=true:=by
 rw[QjZ (Qg1 hc k0 k1 p)];constructor
 ·rintro ⟨i,es,h1,h2,h3⟩;refine⟨i,es,h1,h2,fun e he=>?_⟩;obtain⟨d,hd,rfl⟩:=ZC.1 (h3 e he);obtain⟨j,hj,rfl⟩:=ZC.1 hd;obtain⟨j1,j2,j3⟩:=QkP.1 hj;exact⟨j,j1,j2,j3,rfl⟩
 ·rintro ⟨i,es,h1,h2,h3⟩;refine⟨i,es,h1,h2,fun e he=>?_⟩;obtain⟨j,j1,j2,j3,rfl⟩:=h3 e he;exact Ya (Ya (QkP.2 ⟨j1,j2,j3⟩))
def Qnf {x:Qa} (hc:QY x=[]) {k:Int} (k0:0≤k) (k1:k<x.Kinds.length) (p:Nat→Bool):
  cycS (flen x k:Int) (ownD x k p)=match QeH (QbG ((ownD x k p).map (edN (flen x k+1)))) (ownD x k p).length (flen x k) 2 with | some c=>(c,0) | none=>([],6):=by
 have:=QuI (Qg1 hc k0 k1 p);rw[show ((flen x k+1:Nat):Int) - 1=(flen x k:Int) by omega] at this;exact this
def Qmo {x:Qa} (hc:QY x=[]) {k:Int} (k0:0≤k) (k1:k<x.Kinds.length) (p:Nat→Bool):(cycN x k p≠[]↔NegK x k fun j=>p j=true)∧(cycN x k p=[]↔(cycS (flen x k:Int) (ownD x k p)).2≠0):=by
 have hv:=Qg1 hc k0 k1 p;have hcs:=Qnf hc k0 k1 p;rw[←QtH hc k0 k1 p];unfold cycN;rw[hcs]
 cases h:QeH (QbG ((ownD x k p).map (edN (flen x k+1)))) (ownD x k p).length (flen x k) 2 with
 | none=>have:=Qzk hv h;rw[this];simp
 | some c=>
  obtain⟨js,hp,_,h2,_,hn,_⟩:=Qna hv h;rw[hn,hp];dsimp only;have:js≠[]:=fun e=>by rw[e] at h2;simp at h2
  simp[this]
def Qng {x:Qa} (hc:QY x=[]) {k:Int} (k0:0≤k) (k1:k<x.Kinds.length) (p:Nat→Bool) (hne:cycN x k p≠[]):
  (∀c∈cycN x k p,c<(Qaz x).length∧dK x c=k∧p c=true)∧(cycN x k p).Nodup∧(NegK x k fun j=>j∈cycN x k p)∧∀c∈cycN x k p,¬NegK x k fun j=>j∈cycN x k p∧j≠c:=by
 have hv:=Qg1 hc k0 k1 p;have hcs:=Qnf hc k0 k1 p
 cases h:QeH (QbG ((ownD x k p).map (edN (flen x k+1)))) (ownD x k p).length (flen x k) 2 with
 | none=>exact absurd (by unfold cycN;rw[hcs,h];rfl) hne
 | some c=>
  obtain⟨js,hp,hj,h2,h3,hn,hpick⟩:=Qna hv h;have hC:cycN x k p=js.map fun j=>(ownI x k p).getD j 0:=by unfold cycN;rw[hcs,h];dsimp only;rw[hp,Yw];rfl
  have hlen:(ownD x k p).length=(ownI x k p).length:=by unfold ownD;simp
  have hin:∀j∈js,(ownI x k p).getD j 0∈ownI x k p:=fun j hm=>by have:=hj j hm;rw[Zh,Zb (by omega)];exact Zn _
  have hmem:∀c∈cycN x k p,c<(Qaz x).length∧dK x c=k∧p c=true:=fun c hcm=>by rw[hC] at hcm;obtain⟨j,hm,rfl⟩:=ZC.1 hcm;exact QkP.1 (hin j hm)
  have hCl:(cycN x k p).length=js.length:=by rw[hC];simp
  have hCg:∀q (hq:q<js.length),(ownD x k p).getD (js.getD q 0) ⟨0,0,0⟩=dD x ((cycN x k p)[q]'(by rw[hCl];exact hq)):=fun q hq=>by
   have e1:js.getD q 0=js[q]:=by rw[Zh,Zb hq];rfl
   have hjq:=hj _ (Zn hq);have e2:(cycN x k p)[q]'(by rw[hCl];exact hq)=(ownI x k p).getD js[q] 0:=by simp only[hC,getElem_map]
   rw[e1,e2];unfold ownD;rw[Zh,ZJ,Zh,Zb (by omega)];rfl
  have key:∀s:Int,-1≤s→s<js.length→((NegK x k fun j=>∃q,∃hq:q<js.length,(q:Int)≠s∧j=(cycN x k p)[q]'(by rw[hCl];exact hq))↔s<0):=fun s s0 s1=>by
   obtain⟨hvp,hneg⟩:=hpick s s0 s1;have hdec:negB (flen x k+1) (tP (flen x k+1) (pick (ownD x k p) js s js.length))=true↔s<0:=by rw[hneg];simp
   rw[←hdec,QjZ hvp];constructor
   ·rintro ⟨i,es,w1,w2,w3⟩;refine⟨i,es,w1,w2,fun e he=>?_⟩;obtain⟨j,_,_,⟨q,hq,hqs,rfl⟩,rfl⟩:=w3 e he;rw[←hCg q hq];exact Ya (QkO.2 ⟨q,hq,hqs,rfl⟩)
   ·rintro ⟨i,es,w1,w2,w3⟩;refine⟨i,es,w1,w2,fun e he=>?_⟩;obtain⟨d,hd,rfl⟩:=ZC.1 (w3 e he);obtain⟨q,hq,hqs,rfl⟩:=QkO.1 hd;have hm:=hmem _ (Zn (show q<(cycN x k p).length by rw[hCl];exact hq));exact⟨_,hm.1,hm.2.1,⟨q,hq,hqs,rfl⟩,by rw[hCg q hq]⟩
  refine⟨hmem,?_,?_,fun c hcm hneg=>?_⟩
  ·show Pairwise _ _;rw[pairwise_iff_getElem];intro a b ha hb hab he;have h1:=(key (-1) (by omega) (by omega)).2 (by omega);have h2:=(key (a:Int) (by omega) (by rw[hCl] at ha;omega)).1 (h1.mono fun j _ ⟨q,hq,_,hj⟩=>by
    by_cases e:q=a
    ·subst e;exact⟨b,by rw[←hCl];exact hb,by omega,hj.trans he⟩
    ·exact⟨q,hq,by omega,hj⟩)
   omega
  ·exact ((key (-1) (by omega) (by omega)).2 (by omega)).mono fun j _ ⟨q,hq,_,hj⟩=>by rw[hj];exact Zn _
  ·obtain⟨a,ha,rfl⟩:=Yc hcm;have h2:=(key (a:Int) (by omega) (by rw[hCl] at ha;omega)).1 (hneg.mono fun j _ ⟨hjm,hja⟩=>by
    obtain⟨q,hq,rfl⟩:=Yc hjm;have hqa:q≠a:=fun e=>hja (by subst e;rfl);exact⟨q,by rw[←hCl];exact hq,by omega,rfl⟩)
   omega
inductive Tag where
 | k (i t:Nat)
 | f (i j t:Nat)
 | r (i:Nat)
def Tag.i:Tag→Nat | .k i _=>i | .f i _ _=>i | .r i=>i
def Tag.j:Tag→Nat | .f _ j _=>j | _=>0
def Tag.t:Tag→Nat | .k _ t=>t | .f _ _ t=>t | .r _=>4
def Qjm (t:Nat):Str:=if t=0 then QwT else if t=1 then mostT else if t=2 then lowT else Qql
def kAt (x:Qa) (i:Nat):Qg:=x.Kinds.getD i ⟨[],0,0,[]⟩
def fAt (x:Qa) (i j:Nat):Qc:=(kAt x i).Fields.getD j Qem
def rAt (x:Qa) (i:Nat):Qo:=x.Rules.getD i ⟨[],[],[],[],0⟩
def strT (x:Qa):Tag→Str
 | .k i t=>(kAt x i).Name++Qjm t
 | .f i j t=>dotN (kAt x i) (fAt x i j)++Qjm t
 | .r i=>Qqm++(rAt x i).Name
def tgR (x:Qa) (i j:Nat):List Tag:=if ((fAt x i j).Kind==1)=true then [.f i j 0,.f i j 1] else []
def tgN (x:Qa) (i j:Nat):List Tag:=if (((fAt x i j).Kind !=2)&&((fAt x i j).Kind !=4))=true then [] else [.f i j 2,.f i j 3]
def Qmp (x:Qa):List Tag:=(range x.Kinds.length).flatMap fun i=>[.k i 0,.k i 1]++(range (kAt x i).Fields.length).flatMap (tgR x i)
def Qmq (x:Qa):List Tag:=(range x.Kinds.length).flatMap fun i=>(range (kAt x i).Fields.length).flatMap (tgN x i)
def QkQ (x:Qa):List Tag:=(range x.Rules.length).map Tag.r
def QhK {x:Qa} {i:Nat} (h:i<x.Kinds.length):kAt x i=x.Kinds[i]∧x.Kinds[i]?=some (kAt x i):=by
 have:kAt x i=x.Kinds[i]:=by unfold kAt;rw[Zh,Zb h];rfl
 exact⟨this,by rw[this,Zb h]⟩
def Qj3 {x:Qa} {i j:Nat} (h:j<(kAt x i).Fields.length):fAt x i j=(kAt x i).Fields[j]∧(kAt x i).Fields[j]?=some (fAt x i j):=by
 have:fAt x i j=(kAt x i).Fields[j]:=by unfold fAt;rw[Zh,Zb h];rfl
 exact⟨this,by rw[this,Zb h]⟩
def Qmr {x:Qa} {i:Nat} (h:i<x.Rules.length):rAt x i=x.Rules[i]∧x.Rules[i]?=some (rAt x i):=by
 have:rAt x i=x.Rules[i]:=by unfold rAt;rw[Zh,Zb h];rfl
 exact⟨this,by rw[this,Zb h]⟩
def Qh1 {α:Type} {n:Nat} {F G:Nat→List α} (h:∀i,i<n→F i=G i):(range n).flatMap F=(range n).flatMap G:=by
 induction n with
 | zero=>rfl
 | succ n ih=>rw[Yf,ZM,ZM,ih fun i hi=>h i (by omega),Yt,Yt,h n (by omega)]
def QuK {x:Qa} (hc:QY x=[]):Qdr x=(Qmp x++(Qmq x++QkQ x)).map (strT x):=by
 unfold Qdr;rw[ZV,ZV];unfold Qaz;rw[ZV];congr 1
 ·unfold namL Qmp;rw[map_flatMap];refine Qh1 fun i hi=>?_;obtain⟨_,e⟩:=QhK hi;unfold kndN;rw[e];dsimp only;rw[ZV,map_flatMap];congr 1;refine Qh1 fun j hj=>?_;unfold fldN tgR;rw[(Qj3 hj).2];dsimp only;split<;>rfl
 ·congr 1
  ·unfold Qmq;rw[map_flatMap,map_flatMap];refine Qh1 fun i hi=>?_;obtain⟨_,e⟩:=QhK hi;unfold kndT;rw[e];dsimp only;rw[map_flatMap,map_flatMap];refine Qh1 fun j hj=>?_;unfold fldT tgN;rw[(Qj3 hj).2];dsimp only;split<;>rfl
  ·unfold QkQ;rw[map_flatMap,Yw];have:(range x.Rules.length).map (strT x ∘ Tag.r)=(range x.Rules.length).flatMap fun i=>[strT x (Tag.r i)]:=by
    rw[map_eq_flatMap];rfl
   rw[this];refine Qh1 fun i hi=>?_;obtain⟨e1,e⟩:=Qmr hi;obtain⟨q,_,hq,_⟩:=Qjl hc e;unfold rulT;rw[e];dsimp only;rw[hq];rfl
def Qgg {τ:Type} (key:τ→Nat) (F:Nat→List τ):∀n,(∀i,i<n→(F i).Nodup∧∀a∈F i,key a=i)→((range n).flatMap F).Nodup
 | 0,_=>by simp
 | n+1,h=>by rw[Yf,ZM,Yt];refine nodup_append.2 ⟨Qgg key F n fun i hi=>h i (by omega),(h n (by omega)).1,fun a ha b hb e=>?_⟩;obtain⟨i,hi,ha⟩:=ZG.1 ha;have hi:=ZH.1 hi;have h1:=(h i (by omega)).2 a ha;have h2:=(h n (by omega)).2 b hb;rw[e,h2] at h1;omega
def QoS {x:Qa} {i j:Nat} {a:Tag} (h:a∈tgR x i j):a=.f i j 0∨a=.f i j 1:=by
 unfold tgR at h;split at h
 ·simpa using h
 ·cases h
def QoT {x:Qa} {i j:Nat} {a:Tag} (h:a∈tgN x i j):a=.f i j 2∨a=.f i j 3:=by
 unfold tgN at h;split at h
 ·cases h
 ·simpa using h
def QuL (x:Qa):(Qmp x++(Qmq x++QkQ x)).Nodup:=by
 have hR:∀i,((range (kAt x i).Fields.length).flatMap (tgR x i)).Nodup:=fun i=>Qgg Tag.j _ _ fun j _=>⟨by unfold tgR;split<;>simp,fun a ha=>by rcases QoS ha with rfl | rfl<;>rfl⟩;have hN:∀i,((range (kAt x i).Fields.length).flatMap (tgN x i)).Nodup:=fun i=>Qgg Tag.j _ _ fun j _=>⟨by unfold tgN;split<;>simp,fun a ha=>by rcases QoT ha with rfl | rfl<;>rfl⟩;have mR:∀i,∀a∈(range (kAt x i).Fields.length).flatMap (tgR x i),∃j,a=.f i j 0∨a=.f i j 1:=fun i a ha=>by obtain⟨j,_,ha⟩:=ZG.1 ha;exact⟨j,QoS ha⟩
 have mN:∀i,∀a∈(range (kAt x i).Fields.length).flatMap (tgN x i),∃j,a=.f i j 2∨a=.f i j 3:=fun i a ha=>by obtain⟨j,_,ha⟩:=ZG.1 ha;exact⟨j,QoT ha⟩
 have tB:∀a∈Qmq x,a.t=2∨a.t=3:=fun a ha=>by
  obtain⟨i,_,ha⟩:=ZG.1 ha;obtain⟨j,rfl | rfl⟩:=mN i a ha
  ·exact .inl rfl
  ·exact .inr rfl
 have tC:∀a∈QkQ x,a.t=4:=fun a ha=>by obtain⟨i,_,rfl⟩:=ZC.1 ha;rfl
 have tA:∀a∈Qmp x,a.t=0∨a.t=1:=fun a ha=>by
  obtain⟨i,_,ha⟩:=ZG.1 ha;rcases Zp.1 ha with ha | ha
  ·simp only[Zm,Zv,ZE] at ha;rcases ha with rfl | rfl
   ·exact .inl rfl
   ·exact .inr rfl
  ·obtain⟨j,rfl | rfl⟩:=mR i a ha
   ·exact .inl rfl
   ·exact .inr rfl
 refine nodup_append.2 ⟨Qgg Tag.i _ _ fun i _=>⟨nodup_append.2 ⟨by simp,hR i,fun a ha b hb e=>?_⟩,fun a ha=>?_⟩,nodup_append.2 ⟨Qgg Tag.i _ _ fun i _=>⟨hN i,fun a ha=>?_⟩,?_,fun a ha b hb e=>?_⟩,fun a ha b hb e=>?_⟩
 ·simp only[Zm,Zv,ZE] at ha;obtain⟨j,hb⟩:=mR i b hb;rcases ha with rfl | rfl<;>rcases hb with rfl | rfl<;>cases e
 ·rcases Zp.1 ha with ha | ha
  ·simp only[Zm,Zv,ZE] at ha;rcases ha with rfl | rfl<;>rfl
  ·obtain⟨j,rfl | rfl⟩:=mR i a ha<;>rfl
 ·obtain⟨j,rfl | rfl⟩:=mN i a ha<;>rfl
 ·show Pairwise _ _;unfold QkQ;rw[pairwise_map];exact pairwise_lt_range.imp fun h e=>by cases e;omega
 ·have h1:=tB a ha;have h2:=tC b hb;rw[e] at h1;omega
 ·have h1:=tA a ha;rcases Zp.1 hb with hb | hb
  ·have h2:=tB b hb;rw[e] at h1;omega
  ·have h2:=tC b hb;rw[e] at h1;omega
def Qc5 {s:Str} (h:Q8 s=true):(32:UInt8)∉s∧(46:UInt8)∉s∧(58:UInt8)∉s:=by
 simp only[Q8,Zg,Zt] at h;have key:∀c:UInt8,c∈s→97≤(c.toNat:Int)∧(c.toNat:Int)≤122∨48≤(c.toNat:Int)∧(c.toNat:Int)≤57:=fun c hc=>by
  have:=h.2.2 (c.toNat:Int) (by unfold QW;exact Ya hc);simp only[QeX,QiV,Zz] at this;rcases this with h | h
  ·exact .inl (QbU h)
  ·exact .inr (QbU h)
 refine⟨fun h=>?_,fun h=>?_,fun h=>?_⟩
 ·have:=key _ h;simp at this
 ·have:=key _ h;simp at this
 ·have:=key _ h;simp at this
def sep {c:UInt8}:∀{a a' b b':Str},c∉a→c∉a'→a++c::b=a'++c::b'→a=a'∧b=b'
 | [],[],_,_,_,_,h=>⟨rfl,by simpa using h⟩
 | [],d::a',_,_,_,h2,h=>by simp only[Yg,Yq,List.cons.injEq] at h;exact absurd (by rw[h.1];exact Zk ..) h2
 | d::a,[],_,_,h1,_,h=>by simp only[Yg,Yq,List.cons.injEq] at h;exact absurd (by rw[←h.1];exact Zk ..) h1
 | d::a,d'::a',b,b',h1,h2,h=>by simp only[Yq,List.cons.injEq] at h;obtain⟨e1,e2⟩:=sep (fun hm=>h1 (Zl _ hm)) (fun hm=>h2 (Zl _ hm)) h.2;exact⟨by rw[h.1,e1],e2⟩
def Qms (t:Nat):Str:=(Qjm t).drop 1
def Qoa (t:Nat):Qjm t=32::Qms t:=by
 unfold Qms Qjm;split
 ·rfl
 ·split
  ·rfl
  ·split<;>rfl
def QrN {t u:Nat} (ht:t<4) (hu:u<4) (h:Qms t=Qms u):t=u:=by
 have key:∀t u:_root_.Fin 4,Qms t.val=Qms u.val→t=u:=by decide
 have:=key ⟨t,ht⟩ ⟨u,hu⟩ h;exact ZF _root_.Fin.val this
def Qnh (t:Nat):(46:UInt8)∉Qjm t∧(58:UInt8)∉Qjm t:=by
 unfold Qjm;split
 ·decide
 ·split
  ·decide
  ·split<;>decide
def Real (x:Qa):Tag→Prop
 | .k i t=>i<x.Kinds.length∧t<4
 | .f i j t=>i<x.Kinds.length∧j<(kAt x i).Fields.length∧t<4
 | .r i=>i<x.Rules.length
def Qob {x:Qa} (hc:QY x=[]) {i j:Nat} (hi:i<x.Kinds.length) (hj:j<x.Kinds.length) (h:(kAt x i).Name=(kAt x j).Name):i=j:=by
 have key:∀i j,j<i→i<x.Kinds.length→(kAt x i).Name=(kAt x j).Name→False:=by
  intro i j hji hi h;have hE:Qji x (i:Int) (kAt x i)=0:=by
   have hc':=hc;unfold QY at hc';split at hc'
   ·simp only[append_eq_nil_iff] at hc';have h1:=flatMap_eq_nil_iff.1 hc'.1.2 i (ZH.2 hi);unfold Qhj at h1;rw[(QhK hi).2] at h1;exact QkJ (append_eq_nil_iff.1 h1).1
   ·cases hc'
  unfold Qji at hE;have h1:=(Qcq hE (by decide)).1;have h1:¬Q9 x (kAt x i).Name<(i:Int):=by simpa using h1
  apply h1;unfold Q9 QaF
  cases hf:x.Kinds.findIdx? fun k=>k.Name==(kAt x i).Name with
  | none=>dsimp only;omega
  | some n=>
   dsimp only;obtain⟨hn,_,hb⟩:=ZP.1 hf;rcases Nat.lt_or_ge j n with hjn | hjn
   ·have:=hb j hjn;rw[h,(QhK (by omega:j<x.Kinds.length)).1] at this;simp at this
   ·omega
 rcases Nat.lt_trichotomy i j with h' | h' | h'
 ·exact (key j i h' hj h.symm).elim
 ·exact h'
 ·exact (key i j h' hi h).elim
def Qsz {x:Qa} (hc:QY x=[]) {i a b:Nat} (hi:i<x.Kinds.length) (ha:a<(kAt x i).Fields.length) (hb:b<(kAt x i).Fields.length) (h:(fAt x i a).Name=(fAt x i b).Name):a=b:=by
 have key:∀a b,b<a→a<(kAt x i).Fields.length→(fAt x i a).Name=(fAt x i b).Name→False:=by
  intro a b hba ha h;have hE:QiZ x (kAt x i) (i:Int) (a:Int) (fAt x i a)=0:=by
   have hc':=hc;unfold QY at hc';split at hc'
   ·simp only[append_eq_nil_iff] at hc';have h1:=flatMap_eq_nil_iff.1 hc'.1.2 i (ZH.2 hi);unfold Qhj at h1;rw[(QhK hi).2] at h1;have h2:=flatMap_eq_nil_iff.1 (append_eq_nil_iff.1 h1).2 a (ZH.2 ha);unfold Qgx at h2;rw[(Qj3 ha).2] at h2;exact QkJ h2
   ·cases hc'
  unfold QiZ at hE;split at hE
  ·cases hE
  ·next h1=>
   apply h1;unfold Qai QaF
   cases hf:(kAt x i).Fields.findIdx? fun k=>k.Name==(fAt x i a).Name with
   | none=>dsimp only;omega
   | some n=>
    dsimp only;obtain⟨hn,_,hb⟩:=ZP.1 hf;rcases Nat.lt_or_ge b n with hjn | hjn
    ·have:=hb b hjn;rw[h,(Qj3 (by omega:b<(kAt x i).Fields.length)).1] at this;simp at this
    ·omega
 rcases Nat.lt_trichotomy a b with h' | h' | h'
 ·exact (key b a h' hb h.symm).elim
 ·exact h'
 ·exact (key a b h' ha h).elim
def QuM {x:Qa} (hc:QY x=[]) {i j:Nat} (hi:i<x.Rules.length) (hj:j<x.Rules.length) (h:(rAt x i).Name=(rAt x j).Name):i=j:=by
 have key:∀i j,j<i→i<x.Rules.length→(rAt x i).Name=(rAt x j).Name→False:=by
  intro i j hji hi h;have hz:=QlL hc (Qmr hi).2;unfold Qii at hz;have h1:=(Qcq hz (by decide)).1;have:(x.Rules.take i).any (fun s=>s.Name==(rAt x i).Name)=true:=by refine Yj.2 ⟨rAt x j,?_,by rw[h];simp⟩;rw[(Qmr (by omega:j<x.Rules.length)).1];exact mem_take_iff_getElem.2 ⟨j,by omega,rfl⟩
  rw[this] at h1;cases h1
 rcases Nat.lt_trichotomy i j with h' | h' | h'
 ·exact (key j i h' hj h.symm).elim
 ·exact h'
 ·exact (key i j h' hi h).elim
def QCc {x:Qa} (hc:QY x=[]) {a b:Tag} (ha:Real x a) (hb:Real x b) (h:strT x a=strT x b):a=b:=by
 have hv:=Qav hc;have nk:∀i,i<x.Kinds.length→Q8 (kAt x i).Name=true:=fun i hi=>by have:=hv.kind _ (Zn hi);rw[←(QhK hi).1] at this;simp only[kindS,Zg] at this;exact this.1.1.1
 have nf:∀i j,i<x.Kinds.length→j<(kAt x i).Fields.length→Q8 (fAt x i j).Name=true:=fun i j hi hj=>by have hK:=hv.kind _ (Zn hi);rw[←(QhK hi).1] at hK;have:=(QcF hK).2.2 _ (Zn hj);rw[←(Qj3 hj).1] at this;simp only[fieldS,Zg] at this;exact this.1.1
 have nr:∀i,i<x.Rules.length→Q8 (rAt x i).Name=true:=fun i hi=>by have:=hv.rule _ (Zn hi);rw[←(Qmr hi).1] at this;simp only[QcQ,Zg] at this;exact this.1.1.1.1.1
 have colon:∀a,Real x a→(∀i,a≠.r i)→(58:UInt8)∉strT x a:=by
  intro a ha hr
  cases a with
  | k i t=>unfold strT;rw[Zp,not_or];exact⟨(Qc5 (nk i ha.1)).2.2,(Qnh t).2⟩
  | f i j t=>unfold strT dotN;rw[Zp,Zp,Zp,not_or,not_or,not_or];exact⟨⟨⟨(Qc5 (nk i ha.1)).2.2,by decide⟩,(Qc5 (nf i j ha.1 ha.2.1)).2.2⟩,(Qnh t).2⟩
  | r i=>exact absurd rfl (hr i)
 have colonR:∀i,(58:UInt8)∈strT x (.r i):=fun i=>by unfold strT;exact mem_append_left _ (by decide)
 have dotK:∀i t,i<x.Kinds.length→(46:UInt8)∉strT x (.k i t):=fun i t hi=>by unfold strT;rw[Zp,not_or];exact⟨(Qc5 (nk i hi)).2.1,(Qnh t).1⟩
 have dotF:∀i j t,(46:UInt8)∈strT x (.f i j t):=fun i j t=>by unfold strT dotN;simp
 cases a with
 | k i t=>
  cases b with
  | k i' t'=>simp only[strT] at h;rw[Qoa,Qoa] at h;obtain⟨e1,e2⟩:=sep (Qc5 (nk i ha.1)).1 (Qc5 (nk i' hb.1)).1 h;rw[Qob hc ha.1 hb.1 e1,QrN ha.2 hb.2 e2]
  | f i' j' t'=>exact absurd (by rw[h];exact dotF i' j' t') (dotK i t ha.1)
  | r i'=>exact absurd (by rw[h];exact colonR i') (colon _ ha (fun _ e=>by cases e))
 | f i j t=>
  cases b with
  | k i' t'=>exact absurd (by rw[←h];exact dotF i j t) (dotK i' t' hb.1)
  | f i' j' t'=>simp only[strT,dotN,ZW,singleton_append] at h;obtain⟨e1,e2⟩:=sep (Qc5 (nk i ha.1)).2.1 (Qc5 (nk i' hb.1)).2.1 h;rw[Qoa,Qoa] at e2;obtain⟨e3,e4⟩:=sep (Qc5 (nf i j ha.1 ha.2.1)).1 (Qc5 (nf i' j' hb.1 hb.2.1)).1 e2;have:=Qob hc ha.1 hb.1 e1;subst this;rw[Qsz hc ha.1 ha.2.1 hb.2.1 e3,QrN ha.2.2 hb.2.2 e4]
  | r i'=>exact absurd (by rw[h];exact colonR i') (colon _ ha (fun _ e=>by cases e))
 | r i=>
  cases b with
  | k i' t'=>exact absurd (by rw[←h];exact colonR i) (colon _ hb (fun _ e=>by cases e))
  | f i' j' t'=>exact absurd (by rw[←h];exact colonR i) (colon _ hb (fun _ e=>by cases e))
  | r i'=>simp only[strT] at h;rw[QuM hc ha hb (append_cancel_left h)]
def Qxk (x:Qa):∀a∈Qmp x++(Qmq x++QkQ x),Real x a:=by
 intro a ha;rcases Zp.1 ha with ha | ha
 ·obtain⟨i,hi,ha⟩:=ZG.1 ha;have hi:=ZH.1 hi;rcases Zp.1 ha with ha | ha
  ·simp only[Zm,Zv,ZE] at ha;rcases ha with rfl | rfl
   ·exact⟨hi,by omega⟩
   ·exact⟨hi,by omega⟩
  ·obtain⟨j,hj,ha⟩:=ZG.1 ha;have hj:=ZH.1 hj;rcases QoS ha with rfl | rfl
   ·exact⟨hi,hj,by omega⟩
   ·exact⟨hi,hj,by omega⟩
 ·rcases Zp.1 ha with ha | ha
  ·obtain⟨i,hi,ha⟩:=ZG.1 ha;have hi:=ZH.1 hi;obtain⟨j,hj,ha⟩:=ZG.1 ha;have hj:=ZH.1 hj;rcases QoT ha with rfl | rfl
   ·exact⟨hi,hj,by omega⟩
   ·exact⟨hi,hj,by omega⟩
  ·obtain⟨i,hi,rfl⟩:=ZC.1 ha;exact ZH.1 hi
def QsA {x:Qa} (hc:QY x=[]):(Qdr x).Nodup:=by rw[QuK hc];show Pairwise _ _;rw[pairwise_map];have hn:Pairwise (·≠·) (Qmp x++(Qmq x++QkQ x)):=QuL x;have hr:=Qxk x;refine (Pairwise.and_mem.1 hn).imp fun⟨ha,hb,hne⟩ e=>hne (QCc hc (hr _ ha) (hr _ hb) e)

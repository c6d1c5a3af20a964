/- Package bounds. No condition. -/
import Derived.Test.YtlajingmjmnfgaaGreatDoorCtI
set_option linter.all false
open List Go.IntKind
namespace Go.Proofs.YtlajingmjmnfgaaGreatDoor
open Go.Sim
def Qt9 {m:Nat} {l:List QG} (hv:QdL m l) {many:Nat} (h2:2<=many) (hm:many<=m):∀(k i:Nat),i+k=l.length->
  Qm (λ(s196:Int)=>((if (decide (s196<(l.length:Int)))=true then Qjg m l (many:Int) s196 else (some (.inr (.inl ())))):Option ((Int)⊕((Unit)⊕(Int×List Int))))) (i:Int)=
   some (match Qg2 (QaX (l.map (edN m)) many) k i with | some p=>.inr (0,p) | none=>.inl ()):=by
 have hlen:=hv.len;intro k
 induction k with
 | zero=>intro i hi;rw[Qac];rw[Zd (by simp;omega)];rfl
 | succ k ih=>
  intro i hi;rw[Qac];rw[Zc (by simp;omega),Qww hv (by omega) h2 hm];unfold Qg2
  cases h:(QaX (l.map (edN m)) many i).isEmpty with
  | true=>simp only[if_true];exact ih (i+1) (by omega)
  | false=>simp only[ZB,if_false]
def QB0 (n:Int) (l:List QG):Qgj n l=some (cycS n l):=by
 unfold Qgj cycS;rw[Qsc];simp only[Za];by_cases h:Qbc n l=0
 ·obtain⟨m,rfl,hv⟩:=Qm5 h;have hm11:=hv.m11;have hm1:=hv.m1;have hn:¬(Qbc ((m:Int) - 1) l≠0):=λg=>g h;have hn':¬((Qbc ((m:Int) - 1) l !=0)=true):=by simp[h]
  rw[Zd hn,Zd hn',show ((m:Int) - 1+1).toNat=m by omega,show ((m:Int) - 1).toNat=m - 1 by omega,Qoe hm11];have key:∀(k many:Nat),2<=many->many+k=m+1->Qm (λ(s8:Int)=>((if (decide (s8<=(m:Int)))=true then (Qm (λ(s196:Int)=>((if (decide (s196<(l.length:Int)))=true then Qjg m l s8 s196 else (some (.inr (.inl ())))):Option ((Int)⊕((Unit)⊕(Int×List Int))))) (0:Int)).bind λ(e197:(Unit)⊕(Int×List Int))=>(match e197 with | .inl p281=>(some (.inl (i64.wrap (s8+(1:Int))))) | .inr p282=>(some (.inr (.inr (p282.1,p282.2))))) else (some (.inr (.inl ())))):Option ((Int)⊕((Unit)⊕(Int×List Int))))) (many:Int)=
    some (match Qdt (QaX (l.map (edN m))) l.length k many with | some p=>.inr (0,p) | none=>.inl ()):=by
   intro k
   induction k with
   | zero=>intro many h2 hk;rw[Qac];rw[Zd (by simp;omega)];rfl
   | succ k ih=>
    intro many h2 hk;rw[Qac];have hin:=Qt9 hv h2 (show many<=m by omega) l.length 0 (by omega);rw[show ((0:Nat):Int)=0 from rfl] at hin;rw[Zc (by simp;omega),hin];simp only[Za];unfold Qdt
    cases hs:Qg2 (QaX (l.map (edN m)) many) l.length 0 with
    | some p=>rfl
    | none=>simp only;rw[Qw (n:=m+1) (k:=many) (by omega) (by omega)];exact ih (many+1) (by omega) (by omega)
  have h2:=key (m - 1) 2 (by omega) (by omega);rw[show ((2:Nat):Int)=2 from rfl] at h2;unfold Qjg at h2;refine (Ya (Option.bind · _) h2).trans ?_;simp only[Za];cases Qdt (QaX (l.map (edN m))) l.length (m - 1) 2<;>rfl
 ·rw[Zc h];rw[Zc (by simpa using h)]
def Qua {f:Nat->List Int} {p:List Int}:∀k i,Qg2 f k i=some p->∃j,i<=j/\j<i+k/\p=f j/\p.isEmpty=false/\∀q,i<=q->q<j->(f q).isEmpty=true:=by
 intro k
 induction k with
 | zero=>intro i h;cases h
 | succ k ih=>
  intro i h;unfold Qg2 at h;split at h
  ·next he=>
   obtain⟨j,h1,h2,h3,h4,h5⟩:=ih _ h;refine⟨j,by omega,by omega,h3,h4,λq hq hqj=>?_⟩;by_cases hqi:q=i
   ·rw[hqi];exact he
   ·exact h5 q (by omega) hqj
  ·next he=>cases h;exact⟨i,by omega,by omega,rfl,by simpa using he,λq _ _=>by omega⟩
def Qof {f:Nat->List Int}:∀k i,Qg2 f k i=none->∀q,i<=q->q<i+k->(f q).isEmpty=true:=by
 intro k
 induction k with
 | zero=>intro i _ q _ _;omega
 | succ k ih=>
  intro i h q hq hqk;unfold Qg2 at h;split at h
  ·next he=>
   by_cases hqi:q=i
   ·rw[hqi];exact he
   ·exact ih _ h q (by omega) (by omega)
  ·cases h
def Qog {f:Nat->Nat->List Int} {len:Nat} {p:List Int}:∀k many,Qdt f len k many=some p->∃q i,many<=q/\q<many+k/\i<len/\p=f q i/\p.isEmpty=false/\(∀j,j<i->(f q j).isEmpty=true)/\∀q',many<=q'->q'<q->∀j,j<len->(f q' j).isEmpty=true:=by
 intro k
 induction k with
 | zero=>intro many h;cases h
 | succ k ih=>
  intro many h;unfold Qdt at h;split at h
  ·next p' hs=>cases h;obtain⟨j,_,h2,h3,h4,h5⟩:=Qua _ _ hs;exact⟨many,j,by omega,by omega,by omega,h3,h4,λq hq=>h5 q (by omega) hq,λq' h1 h2=>by omega⟩
  ·next hs=>
   obtain⟨q,i,h1,h2,h3,h4,h5,h6,h7⟩:=ih _ h;refine⟨q,i,by omega,by omega,h3,h4,h5,h6,λq' hq' hq j hj=>?_⟩;by_cases hqm:q'=many
   ·rw[hqm];exact Qof _ _ hs j (by omega) (by omega)
   ·exact h7 q' (by omega) hq j hj
def Qub {f:Nat->Nat->List Int} {len:Nat}:∀k many,Qdt f len k many=none->∀q,many<=q->q<many+k->∀j,j<len->(f q j).isEmpty=true:=by
 intro k
 induction k with
 | zero=>intro many _ q _ _;omega
 | succ k ih=>
  intro many h q hq hqk j hj;unfold Qdt at h;split at h
  ·cases h
  ·next hs=>
   by_cases hqm:q=many
   ·rw[hqm];exact Qof _ _ hs j (by omega) (by omega)
   ·exact ih _ h q (by omega) (by omega) j hj
def Quc {E:List Ed} {many first:Nat}:(QaX E many first).length<=many+1:=by
 unfold QaX;split
 ·have:=(Qm6 (E:=E) (Ly:=lay (E.getD first ⟨0,0,0⟩).a (E.drop (first+1))) (first:=first) (many - 1) ((E.getD first ⟨0,0,0⟩).b,[(first:Int)],(E.getD first ⟨0,0,0⟩).w)).2;simp only[Zj,Zl] at this;omega
 ·simp
def Qys (n:Int) (l:List QG):(cycS n l).1.length<=12:=by
 unfold cycS;by_cases h:Qbc n l=0
 ·obtain⟨m,rfl,hv⟩:=Qm5 h;have hm11:=hv.m11;rw[Zd (by simpa using h)];split
  ·next p hp=>obtain⟨q,i,h1,h2,_,h4,_⟩:=Qog _ _ hp;rw[h4];have:=Quc (E:=l.map (edN ((m:Int) - 1+1).toNat)) (many:=q) (first:=i);simp only;omega
  ·simp
 ·rw[Zc h];simp
def Qwx {m:Nat} {l:List QG} (hv:QdL m l):Qbc ((m:Int) - 1) l=0:=by have h1:=hv.m1;have h2:=hv.m11;have h3:=hv.len;unfold Qbc;rw[Zd (by simp;omega),Zd (by simp;omega),Zd];intro h;obtain⟨d,hd,hb⟩:=Yn.1 h;obtain⟨a1,a2,a3,a4,a5,a6,a7⟩:=hv.ok d hd;unfold badD at hb;simp only[Zz,Zo,ZW] at hb;omega
def Qwy {α:Type} {f:Nat->List α} {n:Nat}:(range (n+1)).flatMap f=(range n).flatMap f++f n:=by rw[ZX,ZF];simp
def walk:Nat->Nat->List Ed->Prop
 | i,k,[]=>i=k
 | i,k,e::es=>e.a=i/\walk e.b k es
def esum (es:List Ed):Int:=(es.map Ed.w).sum
def Qik {e:Ed} {es:List Ed}:esum (e::es)=e.w+esum es:=by simp[esum]
def Qrs {a b:List Ed}:esum (a++b)=esum a+esum b:=by simp[esum]
def Qjh {es fs:List Ed}:∀{i k:Nat},walk i k (es++fs)↔∃j,walk i j es/\walk j k fs:=by
 induction es with
 | nil=>intro i k;simp[walk]
 | cons e es ih=>
  intro i k;simp only[Yw,walk,ih];constructor
  ·rintro ⟨h1,j,h2,h3⟩;exact⟨j,⟨h1,h2⟩,h3⟩
  ·rintro ⟨j,⟨h1,h2⟩,h3⟩;exact⟨h1,j,h2,h3⟩
def Qwz {l:List Ed} (h:¬(l.map Ed.a).Nodup):∃p e q f r,l=p++e::(q++f::r)/\e.a=f.a:=by
 induction l with
 | nil=>simp at h
 | cons x l ih=>
  rw[Yf,nodup_cons] at h;by_cases hx:x.a∈l.map Ed.a
  ·obtain⟨f,hf,he⟩:=ZE.1 hx;obtain⟨q,r,rfl⟩:=append_of_mem hf;exact⟨[],x,q,f,r,rfl,he.symm⟩
  ·obtain⟨p,e,q,f,r,rfl,h2⟩:=ih λh2=>h ⟨hx,h2⟩;exact⟨x::p,e,q,f,r,rfl,h2⟩
def Qud:∀(n:Nat) (es:List Ed) (i:Nat),es.length<=n->walk i i es->esum es<0->∃j cs,walk j j cs/\esum cs<0/\(cs.map Ed.a).Nodup/\∀e∈cs,e∈es:=by
 intro n
 induction n with
 | zero=>intro es i hn _ hs;have:es=[]:=ZI (by omega);subst this;simp[esum] at hs
 | succ n ih=>
  intro es i hn hw hs;by_cases hd:(es.map Ed.a).Nodup
  ·exact⟨i,es,hw,hs,hd,λe he=>he⟩
  ·obtain⟨p,e,q,f,r,rfl,hef⟩:=Qwz hd;obtain⟨j,h1,h2⟩:=Qjh.1 hw;obtain⟨h3,h4⟩:=h2;obtain⟨j2,h5,h6⟩:=Qjh.1 h4;obtain⟨h7,h8⟩:=h6;have c1:walk e.a e.a (e::q):=⟨rfl,by rw[hef,h7];exact h5⟩;have c2:walk i i (p++f::r):=Qjh.2 ⟨j,h1,by rw[<-h3,hef];exact⟨rfl,h8⟩⟩;have hsum:esum (p++e::(q++f::r))=esum (e::q)+esum (p++f::r):=by
    simp only[Qrs,Qik];omega
   rw[hsum] at hs;simp only[Ze,Zj] at hn;by_cases hneg:esum (e::q)<0
   ·obtain⟨j,cs,g1,g2,g3,g4⟩:=ih (e::q) e.a (by simp only[Zj];omega) c1 hneg;refine⟨j,cs,g1,g2,g3,λx hx=>?_⟩;have:=g4 x hx;simp only[Zt,Zp] at this ⊢;rcases this with h | h
    ·exact .inr (.inl h)
    ·exact .inr (.inr (.inl h))
   ·obtain⟨j,cs,g1,g2,g3,g4⟩:=ih (p++f::r) i (by simp only[Ze,Zj];omega) c2 (by omega);refine⟨j,cs,g1,g2,g3,λx hx=>?_⟩;have:=g4 x hx;simp only[Zt,Zp] at this ⊢;rcases this with h | h | h
    ·exact .inl h
    ·exact .inr (.inr (.inr (.inl h)))
    ·exact .inr (.inr (.inr (.inr h)))
def QpA {L:Nat->Int}:∀(tl:List Ed) (r:Nat->Int) (v:Nat),(tl.foldl (Qde L) r) v=r v\/∃x∈tl,x.a=v/\L x.b<INF/\(tl.foldl (Qde L) r) v=i64.wrap (L x.b+x.w):=by
 intro tl
 induction tl with
 | nil=>intro r v;exact .inl rfl
 | cons x tl ih=>
  intro r v;rw[foldl_cons];rcases ih (Qde L r x) v with h | ⟨y,hy,h1,h2,h3⟩
  ·by_cases hL:L x.b<INF
   ·have e:Qde L r x v=if v=x.a then imin (r x.a) (i64.wrap (L x.b+x.w)) else r v:=by unfold Qde;rw[Zc hL];rfl
    rw[e] at h;by_cases hv:v=x.a
    ·rw[Zc hv] at h;rcases (QoV (r x.a) (i64.wrap (L x.b+x.w))).2.2 with g | g
     ·rw[g] at h;left;rw[h,hv]
     ·rw[g] at h;right;exact⟨x,Zn ..,hv.symm,hL,h⟩
    ·rw[Zd hv] at h;exact .inl h
   ·have e:Qde L r x=r:=by unfold Qde;rw[Zd hL]
    rw[e] at h;left;rw[e];exact h
  ·exact .inr ⟨y,Zs _ hy,h1,h2,h3⟩
def QwA {L:Nat->Int}:∀(tl:List Ed) (r:Nat->Int) (v:Nat),(tl.foldl (Qde L) r) v<=r v:=by
 intro tl
 induction tl with
 | nil=>intro r v;exact ZR _
 | cons x tl ih=>
  intro r v;rw[foldl_cons];refine Int.le_trans (ih _ v) ?_;unfold Qde;split
  ·unfold upd1;split
   ·next h=>rw[h];exact (QoV _ _).1
   ·exact ZR _
  ·exact ZR _
def Qyt {L:Nat->Int}:∀(tl:List Ed) (r:Nat->Int) (x:Ed),x∈tl->L x.b<INF->(tl.foldl (Qde L) r) x.a<=i64.wrap (L x.b+x.w):=by
 intro tl
 induction tl with
 | nil=>intro r x hx;cases hx
 | cons y tl ih=>
  intro r x hx hL;rw[foldl_cons];rcases Zp.1 hx with rfl | hx
  ·refine Int.le_trans (QwA _ _ _) ?_;unfold Qde;rw[Zc hL,Qij];exact (QoV _ _).2.1
  ·exact ih _ x hx hL
def QgX (tl:List Ed):Prop:=∀x∈tl,-2097152<=x.w/\x.w<=2097152
def Qrt {a0:Nat} {tl:List Ed} (hs:QgX tl):∀s,s<=100->∀v,lay a0 tl s v=INF\/(-(s:Int) * 2097152<=lay a0 tl s v/\lay a0 tl s v<=(s:Int) * 2097152):=by
 intro s
 induction s with
 | zero=>
  intro _ v;show upd1 (λ_=>INF) a0 0 v=INF\/_;unfold lay upd1;by_cases h:v=a0
  ·right;rw[Zc h];omega
  ·left;rw[Zd h]
 | succ s ih=>
  intro hs100 v;have u0:INF=1099511627776:=rfl;rcases QpA (L:=lay a0 tl s) tl (λ_=>INF) v with h | ⟨x,hx,h1,h2,h3⟩
  ·exact .inl h
  ·right;have e:lay a0 tl (s+1) v=i64.wrap (lay a0 tl s x.b+x.w):=h3;have hw:=hs x hx;rcases ih (by omega) x.b with g | g
   ·omega
   ·rw[w64 (by omega) (by omega)] at e;rw[e];omega
def Qyu {a0:Nat} {tl:List Ed} (hs:QgX tl) {s:Nat} (h100:s<100) {v:Nat} (h:lay a0 tl (s+1) v<INF):∃x∈tl,x.a=v/\lay a0 tl s x.b<INF/\lay a0 tl (s+1) v=lay a0 tl s x.b+x.w:=by
 have u0:INF=1099511627776:=rfl;rcases QpA (L:=lay a0 tl s) tl (λ_=>INF) v with g | ⟨x,hx,h1,h2,h3⟩
 ·have e:lay a0 tl (s+1) v=INF:=g;omega
 ·have e:lay a0 tl (s+1) v=i64.wrap (lay a0 tl s x.b+x.w):=h3;have hw:=hs x hx;have hb:=Qrt (a0:=a0) hs s (by omega) x.b;rw[w64 (by omega) (by omega)] at e;exact⟨x,hx,h1,h2,e⟩
def lay_le {a0:Nat} {tl:List Ed} (hs:QgX tl):∀(es:List Ed) (v:Nat),es.length<=100->walk v a0 es->(∀e∈es,e∈tl)->lay a0 tl es.length v<INF/\lay a0 tl es.length v<=esum es:=by
 intro es;have u0:INF=1099511627776:=rfl
 induction es with
 | nil=>intro v _ h _;have h:v=a0:=h;subst h;show upd1 (λ_=>INF) v 0 v<INF/\upd1 (λ_=>INF) v 0 v<=esum [];rw[Qij];exact⟨by omega,by simp[esum]⟩
 | cons e es ih=>intro v hl h hm;obtain⟨rfl,h⟩:=h;simp only[Zj] at hl ⊢;obtain⟨h1,h2⟩:=ih e.b (by omega) h λx hx=>hm x (Zs _ hx);have he:=hm e (Zn ..);have h3:=Qyt (L:=lay a0 tl es.length) tl (λ_=>INF) e he h1;have e3:lay a0 tl (es.length+1) e.a<=i64.wrap (lay a0 tl es.length e.b+e.w):=h3;have hw:=hs e he;have hb:=Qrt (a0:=a0) hs es.length (by omega) e.b;rw[w64 (by omega) (by omega)] at e3;rw[Qik];omega
abbrev e0B:Ed:=⟨0,0,0⟩
def Qyv {E:List Ed} {L:Nat->Int}:∀(k i:Nat) (st:WkB),i+k=E.length->(∃j,i<=j/\j<E.length/\((E.getD j e0B).a==st.1&&Qds L st.2.2 (E.getD j e0B).w (E.getD j e0B).b)=true)->
  ∃j,i<=j/\j<E.length/\((E.getD j e0B).a==st.1&&Qds L st.2.2 (E.getD j e0B).w (E.getD j e0B).b)=true/\inS E L k i st=((E.getD j e0B).b,st.2.1++[(j:Int)],i64.wrap (st.2.2+(E.getD j e0B).w)):=by
 intro k
 induction k with
 | zero=>rintro i st hi ⟨j,h1,h2,_⟩;omega
 | succ k ih=>
  rintro i st hi ⟨j,h1,h2,h3⟩;unfold inS;by_cases hc:((E.getD i e0B).a==st.1&&Qds L st.2.2 (E.getD i e0B).w (E.getD i e0B).b)=true
  ·rw[Zc hc];exact⟨i,Zx _,by omega,hc,rfl⟩
  ·rw[Zd hc];have hij:i≠j:=by rintro rfl;exact hc h3
   obtain⟨j2,g1,g2,g3⟩:=ih (i+1) st (by omega) ⟨j,by omega,h2,h3⟩;exact⟨j2,by omega,g2,g3⟩
def Qi0 {E:List Ed} {j:Nat} (h:j<E.length):E.getD j e0B=E[j]:=by rw[Zf,Zb h];rfl
def Qm8 {L:Nat->Int} {sum n:Int} {v:Nat} (h1:-2147483648<=sum/\sum<=2147483648) (h2:-2097152<=n/\n<=2097152) (h3:L v=INF\/(-2147483648<=L v/\L v<=2147483648)):Qds L sum n v=true↔L v<INF/\sum+n+L v<0:=by have u0:INF=1099511627776:=rfl;unfold Qds;rw[Zi,Zo,Zo,w64 (n:=sum+n) (by omega) (by omega),w64 (by omega) (by omega)]
def QiI {E:List Ed} (hs:QgX E) (k:Nat):QgX (E.drop k):=λx hx=>hs x (mem_of_mem_drop hx)
def QoX {a0:Nat} {tl:List Ed} (hs:QgX tl) {s:Nat} (h:s<=100) (v:Nat):lay a0 tl s v=INF\/(-2147483648<=lay a0 tl s v/\lay a0 tl s v<=2147483648):=by
 rcases Qrt (a0:=a0) hs s h v with g | g
 ·exact .inl g
 ·right;omega
def QB1 {E:List Ed} (hs:QgX E) {first a0:Nat}:∀(k:Nat) (st:WkB),k<=50->first<E.length->-((100 - (k:Int)) * 2097152)<=st.2.2->st.2.2<=(100 - (k:Int)) * 2097152->
  lay a0 (E.drop (first+1)) k st.1<INF->st.2.2+lay a0 (E.drop (first+1)) k st.1<0->
  ∃js:List Nat,(outS E (lay a0 (E.drop (first+1))) first k st).2.1=st.2.1++js.map (λ(j:Nat)=>(j:Int))/\js.length=k/\(∀j∈js,j<E.length)/\walk st.1 a0 (js.map λj=>E.getD j e0B)/\st.2.2+esum (js.map λj=>E.getD j e0B)<0:=by
 intro k;have u0:INF=1099511627776:=rfl
 induction k with
 | zero=>
  intro st _ hf b1 b2 h1 h2;have e:lay a0 (E.drop (first+1)) 0 st.1=if st.1=a0 then 0 else INF:=rfl;rw[e] at h1 h2;by_cases h:st.1=a0
  ·rw[Zc h] at h2;exact⟨[],by simp[outS],rfl,λj hj=>(by cases hj),h,by simpa[esum] using h2⟩
  ·rw[Zd h] at h1;omega
 | succ k ih=>
  intro st hk hf b1 b2 h1 h2;have hs2:=QiI hs (first+1);obtain⟨x,hx,hxa,hxb,hxe⟩:=Qyu hs2 (by omega) h1;obtain⟨q,hq,rfl⟩:=ZY hx;rw[Ys] at hq;rw[getElem_drop] at hxa hxb hxe;have hj0:first+1+q<E.length:=by omega
  have cond:∀j,j<E.length->(((E.getD j e0B).a==st.1&&Qds (lay a0 (E.drop (first+1)) k) st.2.2 (E.getD j e0B).w (E.getD j e0B).b)=true↔(E.getD j e0B).a=st.1/\lay a0 (E.drop (first+1)) k (E.getD j e0B).b<INF/\st.2.2+(E.getD j e0B).w+lay a0 (E.drop (first+1)) k (E.getD j e0B).b<0):=by intro j hj;have hw:=hs (E.getD j e0B) (by rw[Qi0 hj];exact Zk hj);rw[Zi,ZW,Qm8 (by omega) hw (QoX hs2 (by omega) _)]
  obtain⟨j,g1,g2,g3,g4⟩:=Qyv (E:=E) (L:=lay a0 (E.drop (first+1)) k) (E.length - (first+1)) (first+1) st (by omega) ⟨first+1+q,by omega,hj0,by rw[cond _ hj0,Qi0 hj0];exact⟨hxa,hxb,by omega⟩⟩;rw[cond j g2] at g3;have hw:=hs (E.getD j e0B) (by rw[Qi0 g2];exact Zk g2);rw[w64 (by omega) (by omega)] at g4;obtain⟨js,i1,i2,i3,i4,i5⟩:=ih ((E.getD j e0B).b,st.2.1++[(j:Int)],st.2.2+(E.getD j e0B).w) (by omega) hf (by simp only;omega) (by simp only;omega) g3.2.1 g3.2.2;refine⟨j::js,?_,by simp[i2],?_,?_,?_⟩
  ·unfold outS;rw[g4,i1];simp
  ·intro x hx;rcases Zp.1 hx with rfl | hx
   ·exact g2
   ·exact i3 x hx
  ·exact⟨g3.1,i4⟩
  ·simp only[Yf,Qik] at i5 ⊢;omega
def QwB {E:List Ed} (hs:QgX E) {many first:Nat} (h1:1<=many) (h2:many<=50) (hf:first<E.length) (hne:(QaX E many first).isEmpty=false):
  ∃js:List Nat,QaX E many first=js.map (λ(j:Nat)=>(j:Int))/\js.length=many/\(∀j∈js,j<E.length)/\∃i,walk i i (js.map λj=>E.getD j e0B)/\esum (js.map λj=>E.getD j e0B)<0:=by
 rw[Qjf] at hne;have hg:Qds (lay (E.getD first e0B).a (E.drop (first+1)) (many - 1)) (E.getD first e0B).w 0 (E.getD first e0B).b=true:=by simpa using hne
 have hw:=hs (E.getD first e0B) (by rw[Qi0 hf];exact Zk hf);have hg2:=hg;rw[Qm8 (by omega) (by omega) (QoX (QiI hs _) (by omega) _)] at hg2;obtain⟨js,i1,i2,i3,i4,i5⟩:=QB1 hs (first:=first) (a0:=(E.getD first e0B).a) (many - 1) ((E.getD first e0B).b,[(first:Int)],(E.getD first e0B).w) (by omega) hf (by simp only;omega) (by simp only;omega) hg2.1 (by simp only;omega);refine⟨first::js,?_,by simp[i2];omega,?_,(E.getD first e0B).a,⟨rfl,i4⟩,?_⟩
 ·unfold QaX;rw[Zc hg,i1];rfl
 ·intro x hx;rcases Zp.1 hx with rfl | hx
  ·exact hf
  ·exact i3 x hx
 ·simp only[Yf,Qik];exact i5
def Qse {E:List Ed} (hs:QgX E) (hab:∀e∈E,e.a≠e.b) {j:Nat} {cs:List Ed} (hw:walk j j cs) (hn:esum cs<0) (hd:(cs.map Ed.a).Nodup) (hm:∀e∈cs,e∈E) (hl:cs.length<=50):
  2<=cs.length/\∃first,first<E.length/\(QaX E cs.length first).isEmpty=false:=by
 classical
 have hne:∃y,y∈cs:=by
  cases cs with
  | nil=>simp[esum] at hn
  | cons y _=>exact⟨y,Zn ..⟩
 obtain⟨y,hy⟩:=hne;have hex:∃x∈E,decide (x∈cs)=true:=⟨y,hm y hy,by simpa using hy⟩;have hlt:=findIdx_lt_length_of_exists hex;have hx0:decide (E[E.findIdx λx=>decide (x∈cs)]∈cs)=true:=findIdx_getElem (p:=λx=>decide (x∈cs)) (w:=hlt);have hmin:∀q,(hq:q<E.length)->E[q]∈cs->E.findIdx (λx=>decide (x∈cs))<=q:=by intro q hq hqc;refine Nat.le_of_not_lt λh=>?_;have:=not_of_lt_findIdx (p:=λx=>decide (x∈cs)) h;simp at this;exact this hqc
 generalize E.findIdx (λx=>decide (x∈cs))=first at hlt hx0 hmin
 have hx:E[first]∈cs:=by simpa using hx0
 obtain⟨x,hxe⟩:∃x,E[first]=x:=⟨_,rfl⟩;rw[hxe] at hx;obtain⟨p,r,rfl⟩:=append_of_mem hx;obtain⟨k,w1,w2,w3⟩:=Qjh.1 hw;subst w2;have hwalk:walk x.b x.a (r++p):=Qjh.2 ⟨j,w3,w1⟩;have hsum:esum (p++x::r)=x.w+esum (r++p):=by simp only[Qrs,Qik];omega
 have hxE:x∈E:=hm x hx;have hwx:=hs x hxE;have hmem:∀e∈r++p,e∈E.drop (first+1):=by
  intro e he;have hec:e∈p++x::r:=by
   rcases Zt.1 he with h | h
   ·exact mem_append_right _ (Zs _ h)
   ·exact mem_append_left _ h
  have hne:e.a≠x.a:=by
   intro h;rw[ZT,Yf,nodup_append] at hd;obtain⟨_,d2,d3⟩:=hd;rw[nodup_cons] at d2;rcases Zt.1 he with g | g
   ·exact d2.1 (h▸ZZ g)
   ·exact d3 e.a (ZZ g) x.a (Zn ..) h
  obtain⟨q,hq,rfl⟩:=ZY (hm e hec);have h1:=hmin q hq hec;have h2:q≠first:=by rintro rfl;exact hne (by rw[hxe])
  have h3:q - (first+1)<(E.drop (first+1)).length:=by rw[Ys];omega
  have h4:(E.drop (first+1))[q - (first+1)]=E[q]:=by rw[getElem_drop];congr 1;omega
  rw[<-h4];exact Zk h3
 have hlen:(p++x::r).length=(r++p).length+1:=by simp;omega
 rw[hlen] at hl ⊢;refine⟨?_,first,hlt,?_⟩
 ·refine Nat.succ_le_succ (Nat.pos_of_ne_zero λh=>?_);have:r++p=[]:=ZI h;rw[this] at hwalk;exact hab x hxE hwalk.symm
 ·rw[Qjf];have hgd:E.getD first ⟨0,0,0⟩=x:=(Qi0 hlt).trans hxe
  rw[hgd,Nat.add_sub_cancel];obtain⟨l1,l2⟩:=lay_le (a0:=x.a) (QiI hs (first+1)) (r++p) x.b (by omega) hwalk hmem;have:=(Qm8 (L:=lay x.a (E.drop (first+1)) (r++p).length) (sum:=x.w) (n:=0) (v:=x.b) (by omega) (by omega) (QoX (QiI hs _) (by omega) _)).2 ⟨l1,by omega⟩;rw[this];rfl
def Qhe {α:Type}:∀(l s:List α),l.Nodup->(∀x∈l,x∈s)->l.length<=s.length:=by
 intro l
 induction l with
 | nil=>intro s _ _;simp
 | cons x l ih=>
  intro s hd hm;rw[nodup_cons] at hd;obtain⟨a,b,rfl⟩:=append_of_mem (hm x (Zn ..));have:=ih (a++b) hd.2 λy hy=>by
   have hy2:=hm y (Zs _ hy);have hyx:y≠x:=by rintro rfl;exact hd.1 hy
   rcases Zt.1 hy2 with h | h
   ·exact mem_append_left _ h
   ·rcases Zp.1 h with h | h
    ·exact (hyx h).elim
    ·exact mem_append_right _ h
  simp only[Ze,Zj] at this ⊢;omega
def QpB {m:Nat} {l:List QG} (hv:QdL m l):QgX (l.map (edN m)):=by intro x hx;obtain⟨d,hd,rfl⟩:=ZE.1 hx;obtain⟨_,_,_,_,_,a6,a7⟩:=hv.ok d hd;exact⟨a6,a7⟩
def Qyw {m:Nat} {l:List QG} (hv:QdL m l):∀e∈l.map (edN m),e.a≠e.b:=by intro x hx;obtain⟨d,hd,rfl⟩:=ZE.1 hx;obtain⟨a1,a2,a3,a4,a5,_⟩:=hv.ok d hd;have:=hv.m1;show rowN m d.A≠rowN m d.B;unfold rowN;split<;>split<;>omega
def NegE (m:Nat) (l:List QG):Prop:=∃i es,walk i i es/\esum es<0/\∀e∈es,e∈l.map (edN m)
def QpC {m:Nat} {l k:List QG} (hv:QdL m l) (hk:QdL m k) (hsub:∀x∈k,x∈l) (hn:NegE m k):
  ∃q first,2<=q/\q<=m/\q<=k.length/\first<l.length/\(QaX (l.map (edN m)) q first).isEmpty=false:=by
 obtain⟨i,es,h1,h2,h3⟩:=hn;obtain⟨j,cs,g1,g2,g3,g4⟩:=Qud es.length es i (Zx _) h1 h2;have hm11:=hv.m11;have hcm:cs.length<=m:=by
  have:=Qhe (cs.map Ed.a) (range m) g3 λx hx=>by obtain⟨e,he,rfl⟩:=ZE.1 hx;exact ZD.2 (Qqh hk e (h3 e (g4 e he))).1
  simpa using this
 have hck:cs.length<=k.length:=by
  have:=Qhe (cs.map Ed.a) ((k.map (edN m)).map Ed.a) g3 λx hx=>by obtain⟨e,he,rfl⟩:=ZE.1 hx;exact ZZ (h3 e (g4 e he))
  simpa using this
 have hin:∀e∈cs,e∈l.map (edN m):=by intro e he;obtain⟨d,hd,rfl⟩:=ZE.1 (h3 e (g4 e he));exact ZZ (hsub d hd)
 obtain⟨f1,first,f2,f3⟩:=Qse (QpB hv) (Qyw hv) g1 g2 g3 hin (by omega);exact⟨cs.length,first,f1,hcm,hck,by simpa using f2,f3⟩
def Que {m:Nat} {l:List QG} (hv:QdL m l):cycS ((m:Int) - 1) l=match Qdt (QaX (l.map (edN m))) l.length (m - 1) 2 with | some p=>(p,0) | none=>([],6):=by
 unfold cycS;rw[Zd (by rw[Qwx hv];simp),show ((m:Int) - 1+1).toNat=m by omega,show ((m:Int) - 1).toNat=m - 1 by omega]
 all_goals rfl
def pick (d:List QG) (js:List Nat) (s:Int) (i:Nat):List QG:=(range i).flatMap λ(q:Nat)=>if (q:Int)≠s then [d.getD (js.getD q 0) ⟨0,0,0⟩] else []
def QkW {d:List QG} {js:List Nat} {s:Int} {i:Nat} {x:QG}:x∈pick d js s i↔∃q:Nat,q<i/\(q:Int)≠s/\x=d.getD (js.getD q 0) ⟨0,0,0⟩:=by
 unfold pick;simp only[ZM,ZD];constructor
 ·rintro ⟨q,hq,hx⟩;split at hx
  ·next h=>exact⟨q,hq,h,Zh.1 hx⟩
  ·cases hx
 ·rintro ⟨q,hq,h,rfl⟩;exact⟨q,hq,by rw[Zc h];exact Zh.2 rfl⟩
def QwC {d:List QG} {js:List Nat} {s:Int} {i:Nat}:pick d js s (i+1)=pick d js s i++(if (i:Int)≠s then [d.getD (js.getD i 0) ⟨0,0,0⟩] else []):=Qwy
def Qru {d:List QG} {js:List Nat} {s:Int}:∀i,(pick d js s i).length<=i/\(0<=s->s<i->(pick d js s i).length+1<=i):=by
 intro i
 induction i with
 | zero=>exact⟨by simp[pick],λh1 h2=>by omega⟩
 | succ i ih=>
  rw[QwC,Ze];by_cases h:(i:Int)=s
  ·rw[Zd (by simpa using h)];simp only[Zl];exact⟨by omega,λ_ _=>by omega⟩
  ·rw[Zc h];simp only[Zj,Zl];exact⟨by omega,λh1 h2=>by have:=ih.2 h1 (by omega);omega⟩
def QlT {m:Nat} {l:List QG} (hv:QdL m l) {p:List Int} (h:Qdt (QaX (l.map (edN m))) l.length (m - 1) 2=some p):
  ∃js:List Nat,p=js.map (λ(j:Nat)=>(j:Int))/\(∀j∈js,j<l.length)/\2<=js.length/\js.length<=m/\NegE m l/\∀s:Int,-1<=s->s<js.length->QdL m (pick l js s js.length)/\(NegE m (pick l js s js.length)↔s<0):=by
 obtain⟨q,i,h1,h2,h3,h4,h5,_,h7⟩:=Qog _ _ h;have hm11:=hv.m11;rw[h4] at h5;obtain⟨js,g1,g2,g3,i0,g4,g5⟩:=QwB (QpB hv) (show 1<=q by omega) (by omega) (by simpa using h3) h5;have g3':∀j∈js,j<l.length:=λj hj=>by simpa using g3 j hj
 have hed:∀j,j<l.length->(l.map (edN m)).getD j e0B=edN m (l.getD j ⟨0,0,0⟩):=λj hj=>by rw[Qi0 (by simpa using hj),Zf,Zb hj];simp
 have hin:∀e∈js.map (λj=>(l.map (edN m)).getD j e0B),∃q,q<js.length/\e=edN m (l.getD (js.getD q 0) ⟨0,0,0⟩):=by intro e he;obtain⟨j,hj,rfl⟩:=ZE.1 he;obtain⟨q,hq,rfl⟩:=ZY hj;refine⟨q,hq,?_⟩;rw[hed _ (g3' _ hj),Zf (l:=js),Zb hq];rfl
 have hjl:∀q,q<js.length->js.getD q 0<l.length:=λq hq=>by rw[Zf,Zb hq];exact g3' _ (Zk hq)
 have hgl:∀j,j<l.length->l.getD j ⟨0,0,0⟩∈l:=λj hj=>by rw[Zf,Zb hj];exact Zk hj
 refine⟨js,h4.trans g1,g3',by omega,by omega,?_,λs hs1 hs2=>?_⟩
 ·refine⟨i0,_,g4,g5,λe he=>?_⟩;obtain⟨q,hq,rfl⟩:=hin e he;exact ZZ (hgl _ (hjl q hq))
 ·have hsub:∀x∈pick l js s js.length,x∈l:=by
   intro x hx;obtain⟨q,hq,_,rfl⟩:=QkW.1 hx;exact hgl _ (hjl q hq)
  have hvp:QdL m (pick l js s js.length):=⟨hv.m1,hv.m11,by have:=(Qru (d:=l) (js:=js) (s:=s) js.length).1;omega,λx hx=>hv.ok x (hsub x hx)⟩;refine⟨hvp,?_⟩;by_cases h0:s<0
  ·refine⟨λ_=>h0,λ_=>⟨i0,_,g4,g5,λe he=>?_⟩⟩;obtain⟨q,hq,rfl⟩:=hin e he;exact ZZ (QkW.2 ⟨q,hq,by omega,rfl⟩)
  ·refine⟨λhn=>?_,λh=>absurd h h0⟩;obtain⟨q',first,f1,f2,f3,f4,f5⟩:=QpC hv hvp hsub hn;have:=(Qru (d:=l) (js:=js) (s:=s) js.length).2 (by omega) hs2;have:=h7 q' f1 (by omega) first f4
   rw[this] at f5;cases f5
def QwD {m:Nat} {l:List QG} (hv:QdL m l) (h:Qdt (QaX (l.map (edN m))) l.length (m - 1) 2=none):¬NegE m l:=λhn=>by
 obtain⟨q,first,f1,f2,_,f4,f5⟩:=QpC hv hv (λx hx=>hx) hn;have:=Qub _ _ h q f1 (by omega) first f4
 rw[this] at f5;cases f5
def Qs8 {i j lo hi n:Int} {y:Qk} (h:y∈Qg1 Qk.mk i j lo hi) (h0:0<=i) (h1:i<n) (j0:-1<=j) (j1:j<i) (hl:0<=lo/\lo<=hi/\hi<=65536):VL y n/\y.B<y.A:=by
 simp only[Qg1,Zp,ZN,Yd] at h;rcases h with rfl | rfl
 ·exact⟨⟨h0,h1,j0,by dsimp only;omega,hl.1,by dsimp only;omega⟩,j1⟩
 ·exact⟨⟨h0,h1,j0,by dsimp only;omega,by dsimp only;omega,hl.2.2⟩,j1⟩
def Qsf {x:Qb} (hc:QZ x=[]) {i j:Nat} (hi:i<x.Xa.length) (hj:j<x.Xa[i].Xb.length) (hk:x.Xa[i].Xb[j].Xi=1):0<=QQ x x.Xa[i].Xb[j].Of/\QQ x x.Xa[i].Xb[j].Of<(i:Int):=by
 have hf:field? x (i:Int) (j:Int)=some x.Xa[i].Xb[j]:=by unfold field?;rw[Zc ⟨by omega,by omega⟩,Zq,Zq,Zb hi,Za,Zb hj]
 have h:=Qre (Qt5 hc (QI hi) hf) (.inl hk);unfold upIx at h;rw[hf] at h;dsimp only at h;rw[Zd (by omega),Zc hk] at h;unfold Qhu at h;split at h
 ·exact⟨h,by assumption⟩
 ·omega
def QwE {x:Qb} (hc:QZ x=[]):∀y∈limL Qk.mk x,VL y (x.Xa.length:Int)/\y.B<y.A:=by
 intro y hy;have hv:=Qan hc;unfold limL at hy;obtain⟨i,hi,hy⟩:=ZM.1 hy;rw[ZD] at hi;have hK:=hv.kind _ (Zk hi);unfold kndL at hy;rw[Zb hi] at hy;dsimp only at hy;rcases Zt.1 hy with hy | hy
 ·have hs:=hK;simp only[Qdq,Zi] at hs;exact Qs8 hy (by omega) (by omega) (ZR _) (by omega) (QcR hs.1.1.2)
 ·obtain⟨j,hj,hy⟩:=ZM.1 hy;rw[ZD] at hj;unfold fldL at hy;rw[Zb hj] at hy;dsimp only at hy;by_cases hk:x.Xa[i].Xb[j].Xi=1
  ·rw[Zc (by simpa using hk)] at hy;obtain⟨r0,r1⟩:=Qsf hc hi hj hk;have hF:=(QbW hK).2.2 _ (Zk hj);simp only[QaG,Zi] at hF;have hp:=hF.2;unfold QeJ at hp;rw[Zd (by omega),Zc hk,Zi] at hp;exact Qs8 hy (by omega) (by omega) (by omega) r1 (QcR hp.2)
  ·rw[Zd (by simpa using hk)] at hy;cases hy
def d0T:Dt:=(0,[],⟨0,0,0⟩)
def dK (x:Qb) (i:Nat):Int:=((Qao x).getD i d0T).1
def dD (x:Qb) (i:Nat):QG:=((Qao x).getD i d0T).2.2
def flen (x:Qb) (k:Int):Nat:=match idx x.Xa k with | some q=>q.Xb.length | none=>0
def ownI (x:Qb) (k:Int) (p:Nat->Bool):List Nat:=(range (Qao x).length).filter λi=>dK x i==k&&p i
def ownD (x:Qb) (k:Int) (p:Nat->Bool):List QG:=(ownI x k p).map (dD x)
def cycN (x:Qb) (k:Int) (p:Nat->Bool):List Nat:=(cycS (flen x k:Int) (ownD x k p)).1.map λc=>(ownI x k p).getD c.toNat 0
def DOk (n:Nat) (d:QG):Prop:=-1<=d.A/\d.A<n/\-1<=d.B/\d.B<n/\d.A≠d.B/\-2097152<=d.N/\d.N<=2097152
def Qyx {f:Qd} (h:QaG f=true) (hk:f.Xi=2\/f.Xi=4):-1048576<=f.Lo/\f.Lo<=f.Hi/\f.Hi<=1048576:=by
 simp only[QaG,Zi] at h;have h:=h.2;unfold QeJ at h;rcases hk with hk | hk
 ·rw[Zd (by omega),Zd (by omega),Zc hk] at h;exact QcR h
 ·rw[Zd (by omega),Zd (by omega),Zd (by omega),Zd (by omega),Zc hk,Zi] at h;exact QcR h.2
def Qrv {x:Qb} {i j:Nat} (hi:i<x.Xa.length) (hj:j<x.Xa[i].Xb.length):field? x (i:Int) (j:Int)=some x.Xa[i].Xb[j]:=by unfold field?;rw[Zc ⟨by omega,by omega⟩,Zq,Zq,Zb hi,Za,Zb hj]
def of_ok {x:Qb} (hc:QZ x=[]) {i j:Nat} (hi:i<x.Xa.length) (hj:j<x.Xa[i].Xb.length):-1<=ofIx x.Xa[i] x.Xa[i].Xb[j]/\ofIx x.Xa[i] x.Xa[i].Xb[j]<(j:Int):=by
 unfold ofIx;split
 ·next h=>simp only[Zi,ZW,bne_iff_ne,ne_eq] at h;have hl:=Qt5 hc (QI hi) (Qrv hi hj);unfold Qhy at hl;rw[Zd (by omega),Zd (by omega),Zc h.1] at hl;have h2:=(Qcr hl (by decide)).1;have hne:(x.Xa[i].Xb[j].Of !=[])=true:=bne_iff_ne.2 h.2;rw[hne,Bool.true_and] at h2;simp only[Bool.or_eq_false_iff,ZJ] at h2;exact⟨by omega,by omega⟩
 ·omega
def Qoh {x:Qb} {r:Qp} {n:Str} (hm:QcE x (QQ x r.Xi) n=false) (h0:0<=QQ x r.Xi) (hn:n≠[]) {q:Qi} (hq:idx x.Xa (QQ x r.Xi)=some q):0<=Q8 q n:=by
 unfold QcE at hm;have e:((n==[])||decide (QQ x r.Xi<0))=false:=by simp only[Bool.or_eq_false_iff,ZJ,beq_eq_false_iff_ne];exact⟨hn,by omega⟩
 rw[e] at hm;simp only[Bool.not_false,Bool.true_and,Bool.not_eq_false'] at hm;unfold Qj8 at hm;rw[hq] at hm;dsimp only at hm
 cases hf:field? x (QQ x r.Xi) (Q8 q n) with
 | none=>rw[hf] at hm;cases hm
 | some g=>obtain⟨_,_,hj,_⟩:=QbM hf;exact hj
def Qji {q:Qi} {n:Str} (h:0<=Q8 q n):∃f,idx q.Xb (Q8 q n)=some f/\f.Xj=n:=by
 unfold Q8 QaR at h ⊢
 cases hf:q.Xb.findIdx? λf=>f.Xj==n with
 | none=>rw[hf] at h;dsimp only at h;omega
 | some k=>dsimp only;obtain⟨hk,hp,_⟩:=ZC.1 hf;exact⟨q.Xb[k],QI hk,by simpa using hp⟩
def Qsg {q:Qi} (hq:Qdq q=true):Q8 q []=-1:=by
 rcases Int.lt_or_le (Q8 q []) 0 with h | h
 ·have:=(Qc7 q.Xb λf=>f.Xj==([]:Str)).1;unfold Q8 at h ⊢;omega
 ·obtain⟨f,hf,hn⟩:=Qji h;have hF:=(QbW hq).2.2 f (by
   obtain⟨k,hk⟩:=Zy h;rw[hk,Qc6] at hf;exact Zr hf)
  simp only[QaG,Zi] at hF;have:=hF.1.1;rw[hn] at this;exact absurd this (by decide)
def Qk8 (q:Qi) (n:Str):-1<=Q8 q n/\Q8 q n<q.Xb.length:=Qc7 q.Xb _
def QB2 {x:Qb} (hc:QZ x=[]):∀t∈Qao x,∃q,0<=t.1/\idx x.Xa t.1=some q/\DOk q.Xb.length t.2.2:=by
 intro t ht;have hv:=Qan hc;unfold Qao at ht;rcases Zt.1 ht with ht | ht
 ·obtain⟨i,hi,ht⟩:=ZM.1 ht;rw[ZD] at hi;unfold kndT at ht;rw[Zb hi] at ht;obtain⟨j,hj,ht⟩:=ZM.1 ht;rw[ZD] at hj;unfold fldT at ht;rw[Zb hj] at ht;dsimp only at ht;obtain⟨o0,o1⟩:=of_ok hc hi hj;split at ht
  ·cases ht
  ·next hk=>
   have hk':x.Xa[i].Xb[j].Xi=2\/x.Xa[i].Xb[j].Xi=4:=by
    simp only[Zi,bne_iff_ne,ne_eq,not_and,Classical.not_not] at hk;by_cases h2:x.Xa[i].Xb[j].Xi=2
    ·exact .inl h2
    ·exact .inr (hk h2)
   have hp:=Qyx ((QbW (hv.kind _ (Zk hi))).2.2 _ (Zk hj)) hk';have hw:i64.wrap (0 - x.Xa[i].Xb[j].Lo)=0 - x.Xa[i].Xb[j].Lo:=w64 (by omega) (by omega);simp only[Zp,ZN,Yd] at ht;refine⟨x.Xa[i],?_⟩;rcases ht with rfl | rfl
   ·exact⟨by dsimp only;omega,QI hi,o0,by dsimp only;omega,by dsimp only;omega,by dsimp only;omega,by dsimp only;omega,by dsimp only;rw[hw];omega,by dsimp only;rw[hw];omega⟩
   ·exact⟨by dsimp only;omega,QI hi,by dsimp only;omega,by dsimp only;omega,o0,by dsimp only;omega,by dsimp only;omega,by dsimp only;omega,by dsimp only;omega⟩
 ·obtain⟨i,hi,ht⟩:=ZM.1 ht;rw[ZD] at hi;have hr:=Zb hi;obtain⟨q,hq0,hq,hm⟩:=QjC hc hr;unfold rulT at ht;rw[hr] at ht;dsimp only at ht;rw[hq] at ht;dsimp only at ht;obtain rfl:=Zh.1 ht;have hz:=QlP hc hr;unfold QiB at hz;have z1:=(Qcr hz (by decide)).2;have z2:=Qcr z1 (by decide);have z3:=Qcr z2.2 (by decide);have z4:=Qcr z3.2 (by decide);have hne:x.Xc[i].A≠x.Xc[i].B:=by simpa using z4.1
  have hmiss:=z2.1;simp only[Bool.or_eq_false_iff] at hmiss;have hR:=hv.rule _ (Zk hi);have hn:-1048576<=x.Xc[i].N/\x.Xc[i].N<=1048576:=by simp only[QdK,Zi] at hR;exact Qb5 hR.2
  have a:=Qk8 q x.Xc[i].A;have b:=Qk8 q x.Xc[i].B;refine⟨q,hq0,hq,a.1,a.2,b.1,b.2,λe=>?_,by dsimp only;omega,by dsimp only;omega⟩;dsimp only at e;by_cases hA:x.Xc[i].A=[]
  ·have h1:Q8 q x.Xc[i].A=-1:=by rw[hA];exact Qsg (hv.kind q hm)
   have h2:=Qoh hmiss.2 hq0 (λh=>hne (hA.trans h.symm)) hq;omega
  ·have h1:=Qoh hmiss.1.2 hq0 hA hq;obtain⟨f,hf,hfn⟩:=Qji h1;rw[e] at hf;obtain⟨g,hg,hgn⟩:=Qji (q:=q) (n:=x.Xc[i].B) (by omega);rw[hg] at hf;obtain rfl:=Zu hf;exact hne (hfn.symm.trans hgn)
def QpD {α:Type} (F:Nat->List α) (key:α->Int) (hF:∀i,∀a∈F i,key a=(i:Int)) (k:Int) (B:Nat):∀n,(∀i,i<n->(F i).length<=B)->(((range n).flatMap F).filter λa=>key a==k).length<=if k<n then B else 0
 | 0,_=>by simp
 | n+1,h=>by
  have ih:=QpD F key hF k B n λi hi=>h i (by omega);rw[ZX,ZF,filter_append,Ze,Yr];have hn:=h n (by omega);by_cases e:(n:Int)=k
  ·have h1:((F n).filter λa=>key a==k).length<=(F n).length:=length_filter_le _ _;rw[Zd (by omega)] at ih;rw[Zc (by omega)];omega
  ·have h1:((F n).filter λa=>key a==k)=[]:=by
    rw[filter_eq_nil_iff];intro a ha;rw[hF n a ha];simpa using e
   rw[h1,Zl];by_cases h2:k<n
   ·rw[Zc h2] at ih;rw[Zc (by omega)];omega
   ·rw[Zd h2] at ih;rw[Zd (by omega)];omega
def QB3 (x:Qb) (i:Nat):∀t∈kndT x i,t.1=(i:Int):=by
 intro t ht;unfold kndT at ht
 cases hq:x.Xa[i]? with
 | none=>rw[hq] at ht;cases ht
 | some q=>
  rw[hq] at ht;obtain⟨j,_,ht⟩:=ZM.1 ht;unfold fldT at ht
  cases hf:q.Xb[j]? with
  | none=>rw[hf] at ht;cases ht
  | some f=>
   rw[hf] at ht;dsimp only at ht;split at ht
   ·cases ht
   ·simp only[Zp,ZN,Yd] at ht;rcases ht with rfl | rfl<;>rfl
def Qrw {α:Type} (l:List α) (d:α) (p:α->Bool):((range l.length).filter λi=>p (l.getD i d)).length=(l.filter p).length:=by
 have e:l=(range l.length).map λi=>l.getD i d:=by refine ext_getElem (by simp) λi h1 h2=>?_;simp[Zf,h1]
 have:=Ya (λm=>(m.filter p).length) e;rw[this,filter_map,Zv];rfl
def QkX {x:Qb} {k:Int} {p:Nat->Bool} {i:Nat}:i∈ownI x k p↔i<(Qao x).length/\dK x i=k/\p i=true:=by unfold ownI;rw[Yj,ZD];simp
def Qyy {x:Qb} (hv:Qe6 x) (k:Int) (p:Nat->Bool):(ownI x k p).length<=36:=by
 have h1:(ownI x k p).length<=((range (Qao x).length).filter λi=>((Qao x).getD i d0T).1==k).length:=by
  unfold ownI;have:((range (Qao x).length).filter λi=>dK x i==k&&p i)=(((range (Qao x).length).filter λi=>((Qao x).getD i d0T).1==k).filter p):=by
   rw[filter_filter];congr 1
   funext i
   unfold dK;exact Bool.and_comm _ _
  rw[this];exact length_filter_le _ _
 rw[Qrw (Qao x) d0T (λt=>t.1==k)] at h1;unfold Qao at h1;rw[filter_append,Ze] at h1;have h2:=QpD (kndT x) (λt=>t.1) (QB3 x) k 20 x.Xa.length λi _=>QhP hv i;have h3:(((range x.Xc.length).flatMap (rulT x)).filter λt=>t.1==k).length<=((range x.Xc.length).flatMap (rulT x)).length:=length_filter_le _ _;have h4:=Qa7 x.Xc.length (rulT x) 1 λj _=>QkS x j;have h5:=hv.rules;split at h2<;>omega
def Qoi {x:Qb} {i:Nat} (h:i<(Qao x).length):(Qao x).getD i d0T=(Qao x)[i]:=by rw[Zf,Zb h];rfl
def QjD {x:Qb} (hc:QZ x=[]) {k:Int} (k0:0<=k) (k1:k<x.Xa.length) (p:Nat->Bool):QdL (flen x k+1) (ownD x k p):=by
 have hv:=Qan hc;obtain⟨i,rfl⟩:=Zy k0;have hi:i<x.Xa.length:=by omega
 have hf:flen x (i:Int)=x.Xa[i].Xb.length:=by unfold flen;rw[QI hi]
 have hf10:=(QbW (hv.kind _ (Zk hi))).2.1;refine⟨by omega,by rw[hf];omega,?_,λd hd=>?_⟩
 ·unfold ownD;rw[Zv];have:=Qyy hv (i:Int) p;omega
 ·obtain⟨j,hj,rfl⟩:=ZE.1 hd;obtain⟨h1,h2,_⟩:=QkX.1 hj;obtain⟨q,_,hq,hd⟩:=QB2 hc _ (Zk h1);unfold dK at h2;rw[Qoi h1] at h2;rw[h2,QI hi] at hq;obtain rfl:=Zu hq;unfold dD;rw[Qoi h1,hf];obtain⟨a1,a2,a3,a4,a5,a6,a7⟩:=hd;exact⟨a1,by omega,a3,by omega,a5,a6,a7⟩
def NegK (x:Qb) (k:Int) (I:Nat->Prop):Prop:=∃i es,walk i i es/\esum es<0/\∀e∈es,∃j,j<(Qao x).length/\dK x j=k/\I j/\e=edN (flen x k+1) (dD x j)
def NegK.mono {x:Qb} {k:Int} {I J:Nat->Prop} (h:NegK x k I) (hIJ:∀j,dK x j=k->I j->J j):NegK x k J:=by obtain⟨i,es,h1,h2,h3⟩:=h;refine⟨i,es,h1,h2,λe he=>?_⟩;obtain⟨j,j1,j2,j3,j4⟩:=h3 e he;exact⟨j,j1,j2,hIJ j j2 j3,j4⟩
def QB4 {x:Qb} (hc:QZ x=[]) {k:Int} (k0:0<=k) (k1:k<x.Xa.length) (p:Nat->Bool):NegE (flen x k+1) (ownD x k p)↔NegK x k λj=>p j=true:=by
 constructor
 ·rintro ⟨i,es,h1,h2,h3⟩;refine⟨i,es,h1,h2,λe he=>?_⟩;obtain⟨d,hd,rfl⟩:=ZE.1 (h3 e he);obtain⟨j,hj,rfl⟩:=ZE.1 hd;obtain⟨j1,j2,j3⟩:=QkX.1 hj;exact⟨j,j1,j2,j3,rfl⟩
 ·rintro ⟨i,es,h1,h2,h3⟩;refine⟨i,es,h1,h2,λe he=>?_⟩;obtain⟨j,j1,j2,j3,rfl⟩:=h3 e he;exact ZZ (ZZ (QkX.2 ⟨j1,j2,j3⟩))
def Qm9 {x:Qb} (hc:QZ x=[]) {k:Int} (k0:0<=k) (k1:k<x.Xa.length) (p:Nat->Bool):
  cycS (flen x k:Int) (ownD x k p)=match Qdt (QaX ((ownD x k p).map (edN (flen x k+1)))) (ownD x k p).length (flen x k) 2 with | some c=>(c,0) | none=>([],6):=by
 have:=Que (QjD hc k0 k1 p);rw[show ((flen x k+1:Nat):Int) - 1=(flen x k:Int) by omega] at this;exact this
def QoY {x:Qb} (hc:QZ x=[]) {k:Int} (k0:0<=k) (k1:k<x.Xa.length) (p:Nat->Bool):(cycN x k p≠[]↔NegK x k λj=>p j=true)/\(cycN x k p=[]↔(cycS (flen x k:Int) (ownD x k p)).2≠0):=by
 have hv:=QjD hc k0 k1 p;have hcs:=Qm9 hc k0 k1 p;rw[<-QB4 hc k0 k1 p];unfold cycN;rw[hcs]
 cases h:Qdt (QaX ((ownD x k p).map (edN (flen x k+1)))) (ownD x k p).length (flen x k) 2 with
 | none=>have:=QwD hv h;simp[this]
 | some c=>
  obtain⟨js,hp,_,h2,_,hn,_⟩:=QlT hv h;rw[hp];dsimp only;have:js≠[]:=λe=>by rw[e] at h2;simp at h2
  simp[this,hn]
def Qna {x:Qb} (hc:QZ x=[]) {k:Int} (k0:0<=k) (k1:k<x.Xa.length) (p:Nat->Bool) (hne:cycN x k p≠[]):
  (∀c∈cycN x k p,c<(Qao x).length/\dK x c=k/\p c=true)/\(cycN x k p).Nodup/\(NegK x k λj=>j∈cycN x k p)/\∀c∈cycN x k p,¬NegK x k λj=>j∈cycN x k p/\j≠c:=by
 have hv:=QjD hc k0 k1 p;have hcs:=Qm9 hc k0 k1 p
 cases h:Qdt (QaX ((ownD x k p).map (edN (flen x k+1)))) (ownD x k p).length (flen x k) 2 with
 | none=>exact absurd (by unfold cycN;rw[hcs,h];rfl) hne
 | some c=>
  obtain⟨js,hp,hj,h2,h3,hn,hpick⟩:=QlT hv h;have hC:cycN x k p=js.map λj=>(ownI x k p).getD j 0:=by unfold cycN;rw[hcs,h];dsimp only;rw[hp,Yv];rfl
  have hlen:(ownD x k p).length=(ownI x k p).length:=by unfold ownD;simp
  have hin:∀j∈js,(ownI x k p).getD j 0∈ownI x k p:=λj hm=>by have:=hj j hm;rw[Zf,Zb (by omega)];exact Zk _
  have hmem:∀c∈cycN x k p,c<(Qao x).length/\dK x c=k/\p c=true:=λc hcm=>by rw[hC] at hcm;obtain⟨j,hm,rfl⟩:=ZE.1 hcm;exact QkX.1 (hin j hm)
  have hCl:(cycN x k p).length=js.length:=by rw[hC];simp
  have hCg:∀q (hq:q<js.length),(ownD x k p).getD (js.getD q 0) ⟨0,0,0⟩=dD x ((cycN x k p)[q]'(by rw[hCl];exact hq)):=λq hq=>by
   have e1:js.getD q 0=js[q]:=by rw[Zf,Zb hq];rfl
   have hjq:=hj _ (Zk hq);have e2:(cycN x k p)[q]'(by rw[hCl];exact hq)=(ownI x k p).getD js[q] 0:=by simp only[hC,getElem_map]
   rw[e1,e2];unfold ownD;rw[Zf,Ym,Zf,Zb (by omega)];rfl
  have key:∀s:Int,-1<=s->s<js.length->((NegK x k λj=>∃q,∃hq:q<js.length,(q:Int)≠s/\j=(cycN x k p)[q]'(by rw[hCl];exact hq))↔s<0):=λs s0 s1=>by
   obtain⟨hvp,hneg⟩:=hpick s s0 s1;rw[<-hneg];constructor
   ·rintro ⟨i,es,w1,w2,w3⟩;refine⟨i,es,w1,w2,λe he=>?_⟩;obtain⟨j,_,_,⟨q,hq,hqs,rfl⟩,rfl⟩:=w3 e he;rw[<-hCg q hq];exact ZZ (QkW.2 ⟨q,hq,hqs,rfl⟩)
   ·rintro ⟨i,es,w1,w2,w3⟩;refine⟨i,es,w1,w2,λe he=>?_⟩;obtain⟨d,hd,rfl⟩:=ZE.1 (w3 e he);obtain⟨q,hq,hqs,rfl⟩:=QkW.1 hd;have hm:=hmem _ (Zk (show q<(cycN x k p).length by rw[hCl];exact hq));exact⟨_,hm.1,hm.2.1,⟨q,hq,hqs,rfl⟩,by rw[hCg q hq]⟩
  refine⟨hmem,?_,?_,λc hcm hneg=>?_⟩
  ·show Pairwise _ _;rw[pairwise_iff_getElem];intro a b ha hb hab he;have h1:=(key (-1) (by omega) (by omega)).2 (by omega);have h2:=(key (a:Int) (by omega) (by rw[hCl] at ha;omega)).1 (h1.mono λj _ ⟨q,hq,_,hj⟩=>by
    by_cases e:q=a
    ·subst e;exact⟨b,by rw[<-hCl];exact hb,by omega,hj.trans he⟩
    ·exact⟨q,hq,by omega,hj⟩)
   omega
  ·exact ((key (-1) (by omega) (by omega)).2 (by omega)).mono λj _ ⟨q,hq,_,hj⟩=>by rw[hj];exact Zk _
  ·obtain⟨a,ha,rfl⟩:=ZY hcm;have h2:=(key (a:Int) (by omega) (by rw[hCl] at ha;omega)).1 (hneg.mono λj _ ⟨hjm,hja⟩=>by
    obtain⟨q,hq,rfl⟩:=ZY hjm;have hqa:q≠a:=λe=>hja (by subst e;rfl);exact⟨q,by rw[<-hCl];exact hq,by omega,rfl⟩)
   omega
inductive Tag where
 | k (i t:Nat)
 | f (i j t:Nat)
 | r (i:Nat)
def Tag.i:Tag->Nat | .k i _=>i | .f i _ _=>i | .r i=>i
def Tag.j:Tag->Nat | .f _ j _=>j | _=>0
def Tag.t:Tag->Nat | .k _ t=>t | .f _ _ t=>t | .r _=>4
def QjE (t:Nat):Str:=if t=0 then Qwn else if t=1 then mostT else if t=2 then lowT else Qqf
def kAt (x:Qb) (i:Nat):Qi:=x.Xa.getD i ⟨[],0,0,[]⟩
def fAt (x:Qb) (i j:Nat):Qd:=(kAt x i).Xb.getD j QcA
def rAt (x:Qb) (i:Nat):Qp:=x.Xc.getD i ⟨[],[],[],[],0⟩
def strT (x:Qb):Tag->Str
 | .k i t=>(kAt x i).Xj++QjE t
 | .f i j t=>dotN (kAt x i) (fAt x i j)++QjE t
 | .r i=>Qqg++(rAt x i).Xj
def tgR (x:Qb) (i j:Nat):List Tag:=if ((fAt x i j).Xi==1)=true then [.f i j 0,.f i j 1] else []
def tgN (x:Qb) (i j:Nat):List Tag:=if (((fAt x i j).Xi !=2)&&((fAt x i j).Xi !=4))=true then [] else [.f i j 2,.f i j 3]
def Qmr (x:Qb):List Tag:=(range x.Xa.length).flatMap λi=>[.k i 0,.k i 1]++(range (kAt x i).Xb.length).flatMap (tgR x i)
def Qms (x:Qb):List Tag:=(range x.Xa.length).flatMap λi=>(range (kAt x i).Xb.length).flatMap (tgN x i)
def QkY (x:Qb):List Tag:=(range x.Xc.length).map Tag.r
def QhQ {x:Qb} {i:Nat} (h:i<x.Xa.length):kAt x i=x.Xa[i]/\x.Xa[i]?=some (kAt x i):=by
 have:kAt x i=x.Xa[i]:=by unfold kAt;rw[Zf,Zb h];rfl
 exact⟨this,by rw[this,Zb h]⟩
def Qkb {x:Qb} {i j:Nat} (h:j<(kAt x i).Xb.length):fAt x i j=(kAt x i).Xb[j]/\(kAt x i).Xb[j]?=some (fAt x i j):=by
 have:fAt x i j=(kAt x i).Xb[j]:=by unfold fAt;rw[Zf,Zb h];rfl
 exact⟨this,by rw[this,Zb h]⟩
def Qmt {x:Qb} {i:Nat} (h:i<x.Xc.length):rAt x i=x.Xc[i]/\x.Xc[i]?=some (rAt x i):=by
 have:rAt x i=x.Xc[i]:=by unfold rAt;rw[Zf,Zb h];rfl
 exact⟨this,by rw[this,Zb h]⟩
def Qil {α:Type} {n:Nat} {F G:Nat->List α} (h:∀i,i<n->F i=G i):(range n).flatMap F=(range n).flatMap G:=by
 induction n with
 | zero=>rfl
 | succ n ih=>rw[ZX,ZF,ZF,ih λi hi=>h i (by omega),Yr,Yr,h n (by omega)]
def Quf {x:Qb} (hc:QZ x=[]):QaK x=(Qmr x++(Qms x++QkY x)).map (strT x):=by
 unfold QaK;rw[ZT,ZT];unfold Qao;rw[ZT];congr 1
 ·unfold namL Qmr;rw[map_flatMap];refine Qil λi hi=>?_;obtain⟨_,e⟩:=QhQ hi;unfold kndN;rw[e];dsimp only;rw[ZT,map_flatMap];congr 1;refine Qil λj hj=>?_;unfold fldN tgR;rw[(Qkb hj).2];dsimp only;split<;>rfl
 ·congr 1
  ·unfold Qms;rw[map_flatMap,map_flatMap];refine Qil λi hi=>?_;obtain⟨_,e⟩:=QhQ hi;unfold kndT;rw[e];dsimp only;rw[map_flatMap,map_flatMap];refine Qil λj hj=>?_;unfold fldT tgN;rw[(Qkb hj).2];dsimp only;split<;>rfl
  ·unfold QkY;rw[map_flatMap,Yv];have:(range x.Xc.length).map (strT x ∘ Tag.r)=(range x.Xc.length).flatMap λi=>[strT x (Tag.r i)]:=by
    rw[map_eq_flatMap];rfl
   rw[this];refine Qil λi hi=>?_;obtain⟨e1,e⟩:=Qmt hi;obtain⟨q,_,hq,_⟩:=QjC hc e;unfold rulT;rw[e];dsimp only;rw[hq];rfl
def QgE {τ:Type} (key:τ->Nat) (F:Nat->List τ):∀n,(∀i,i<n->(F i).Nodup/\∀a∈F i,key a=i)->((range n).flatMap F).Nodup
 | 0,_=>by simp
 | n+1,h=>by rw[ZX,ZF,Yr];refine nodup_append.2 ⟨QgE key F n λi hi=>h i (by omega),(h n (by omega)).1,λa ha b hb e=>?_⟩;obtain⟨i,hi,ha⟩:=ZM.1 ha;have hi:=ZD.1 hi;have h1:=(h i (by omega)).2 a ha;have h2:=(h n (by omega)).2 b hb;rw[e,h2] at h1;omega
def QoZ {x:Qb} {i j:Nat} {a:Tag} (h:a∈tgR x i j):a=.f i j 0\/a=.f i j 1:=by
 unfold tgR at h;split at h
 ·simpa using h
 ·cases h
def Qo0 {x:Qb} {i j:Nat} {a:Tag} (h:a∈tgN x i j):a=.f i j 2\/a=.f i j 3:=by
 unfold tgN at h;split at h
 ·cases h
 ·simpa using h
def Qug (x:Qb):(Qmr x++(Qms x++QkY x)).Nodup:=by
 have hR:∀i,((range (kAt x i).Xb.length).flatMap (tgR x i)).Nodup:=λi=>QgE Tag.j _ _ λj _=>⟨by unfold tgR;split<;>simp,λa ha=>by rcases QoZ ha with rfl | rfl<;>rfl⟩;have hN:∀i,((range (kAt x i).Xb.length).flatMap (tgN x i)).Nodup:=λi=>QgE Tag.j _ _ λj _=>⟨by unfold tgN;split<;>simp,λa ha=>by rcases Qo0 ha with rfl | rfl<;>rfl⟩;have mR:∀i,∀a∈(range (kAt x i).Xb.length).flatMap (tgR x i),∃j,a=.f i j 0\/a=.f i j 1:=λi a ha=>by obtain⟨j,_,ha⟩:=ZM.1 ha;exact⟨j,QoZ ha⟩
 have mN:∀i,∀a∈(range (kAt x i).Xb.length).flatMap (tgN x i),∃j,a=.f i j 2\/a=.f i j 3:=λi a ha=>by obtain⟨j,_,ha⟩:=ZM.1 ha;exact⟨j,Qo0 ha⟩
 have tB:∀a∈Qms x,a.t=2\/a.t=3:=λa ha=>by
  obtain⟨i,_,ha⟩:=ZM.1 ha;obtain⟨j,rfl | rfl⟩:=mN i a ha
  ·exact .inl rfl
  ·exact .inr rfl
 have tC:∀a∈QkY x,a.t=4:=λa ha=>by obtain⟨i,_,rfl⟩:=ZE.1 ha;rfl
 have tA:∀a∈Qmr x,a.t=0\/a.t=1:=λa ha=>by
  obtain⟨i,_,ha⟩:=ZM.1 ha;rcases Zt.1 ha with ha | ha
  ·simp only[Zp,ZN,Yd] at ha;rcases ha with rfl | rfl
   ·exact .inl rfl
   ·exact .inr rfl
  ·obtain⟨j,rfl | rfl⟩:=mR i a ha
   ·exact .inl rfl
   ·exact .inr rfl
 refine nodup_append.2 ⟨QgE Tag.i _ _ λi _=>⟨nodup_append.2 ⟨by simp,hR i,λa ha b hb e=>?_⟩,λa ha=>?_⟩,nodup_append.2 ⟨QgE Tag.i _ _ λi _=>⟨hN i,λa ha=>?_⟩,?_,λa ha b hb e=>?_⟩,λa ha b hb e=>?_⟩
 ·simp only[Zp,ZN,Yd] at ha;obtain⟨j,hb⟩:=mR i b hb;rcases ha with rfl | rfl<;>rcases hb with rfl | rfl<;>cases e
 ·rcases Zt.1 ha with ha | ha
  ·simp only[Zp,ZN,Yd] at ha;rcases ha with rfl | rfl<;>rfl
  ·obtain⟨j,rfl | rfl⟩:=mR i a ha<;>rfl
 ·obtain⟨j,rfl | rfl⟩:=mN i a ha<;>rfl
 ·show Pairwise _ _;unfold QkY;rw[pairwise_map];exact pairwise_lt_range.imp λh e=>by cases e;omega
 ·have h1:=tB a ha;have h2:=tC b hb;rw[e] at h1;omega
 ·have h1:=tA a ha;rcases Zt.1 hb with hb | hb
  ·have h2:=tB b hb;rw[e] at h1;omega
  ·have h2:=tC b hb;rw[e] at h1;omega
def Qdf {s:Str} (h:Q3 s=true):(32:UInt8)∉s/\(46:UInt8)∉s/\(58:UInt8)∉s:=by
 simp only[Q3,Zi,ZH] at h;have key:∀c:UInt8,c∈s->97<=(c.toNat:Int)/\(c.toNat:Int)<=122\/48<=(c.toNat:Int)/\(c.toNat:Int)<=57:=λc hc=>by
  have:=h.2.2 (c.toNat:Int) (by unfold Q0;exact ZZ hc);simp only[QcQ,QgV,Zz] at this;rcases this with h | h
  ·exact .inl (Qb5 h)
  ·exact .inr (Qb5 h)
 refine⟨λh=>?_,λh=>?_,λh=>?_⟩
 ·have:=key _ h;simp at this
 ·have:=key _ h;simp at this
 ·have:=key _ h;simp at this
def sep {c:UInt8}:∀{a a' b b':Str},c∉a->c∉a'->a++c::b=a'++c::b'->a=a'/\b=b'
 | [],[],_,_,_,_,h=>⟨rfl,by simpa using h⟩
 | [],d::a',_,_,_,h2,h=>by simp only[Ye,Yw,List.cons.injEq] at h;exact absurd (by rw[h.1];exact Zn ..) h2
 | d::a,[],_,_,h1,_,h=>by simp only[Ye,Yw,List.cons.injEq] at h;exact absurd (by rw[<-h.1];exact Zn ..) h1
 | d::a,d'::a',b,b',h1,h2,h=>by simp only[Yw,List.cons.injEq] at h;obtain⟨e1,e2⟩:=sep (λhm=>h1 (Zs _ hm)) (λhm=>h2 (Zs _ hm)) h.2;exact⟨by rw[h.1,e1],e2⟩
def Qmu (t:Nat):Str:=(QjE t).drop 1
def Qoj (t:Nat):QjE t=32::Qmu t:=by
 unfold Qmu QjE;split
 ·rfl
 ·split
  ·rfl
  ·split<;>rfl
def Qrx {t u:Nat} (ht:t<4) (hu:u<4) (h:Qmu t=Qmu u):t=u:=by
 have key:∀t u:_root_.Fin 4,Qmu t.val=Qmu u.val->t=u:=by decide
 have:=key ⟨t,ht⟩ ⟨u,hu⟩ h;exact Ya _root_.Fin.val this
def Qnb (t:Nat):(46:UInt8)∉QjE t/\(58:UInt8)∉QjE t:=by
 unfold QjE;split
 ·decide
 ·split
  ·decide
  ·split<;>decide
def Real (x:Qb):Tag->Prop
 | .k i t=>i<x.Xa.length/\t<4
 | .f i j t=>i<x.Xa.length/\j<(kAt x i).Xb.length/\t<4
 | .r i=>i<x.Xc.length
def Qok {x:Qb} (hc:QZ x=[]) {i j:Nat} (hi:i<x.Xa.length) (hj:j<x.Xa.length) (h:(kAt x i).Xj=(kAt x j).Xj):i=j:=by
 have key:∀i j,j<i->i<x.Xa.length->(kAt x i).Xj=(kAt x j).Xj->False:=by
  intro i j hji hi h;have hE:Qhz x (i:Int) (kAt x i)=0:=by
   have hc':=hc;unfold QZ at hc';split at hc'
   ·simp only[append_eq_nil_iff] at hc';have h1:=flatMap_eq_nil_iff.1 hc'.1.2 i (ZD.2 hi);unfold QeK at h1;rw[(QhQ hi).2] at h1;exact QkR (append_eq_nil_iff.1 h1).1
   ·cases hc'
  unfold Qhz at hE;have h1:=(Qcr hE (by decide)).1;have h1:¬QQ x (kAt x i).Xj<(i:Int):=by simpa using h1
  apply h1;unfold QQ QaR
  cases hf:x.Xa.findIdx? λk=>k.Xj==(kAt x i).Xj with
  | none=>dsimp only;omega
  | some n=>
   dsimp only;obtain⟨hn,_,hb⟩:=ZC.1 hf;rcases Nat.lt_or_ge j n with hjn | hjn
   ·have:=hb j hjn;rw[h,(QhQ (by omega:j<x.Xa.length)).1] at this;simp at this
   ·omega
 rcases Nat.lt_trichotomy i j with h' | h' | h'
 ·exact (key j i h' hj h.symm).elim
 ·exact h'
 ·exact (key i j h' hi h).elim
def Qsh {x:Qb} (hc:QZ x=[]) {i a b:Nat} (hi:i<x.Xa.length) (ha:a<(kAt x i).Xb.length) (hb:b<(kAt x i).Xb.length) (h:(fAt x i a).Xj=(fAt x i b).Xj):a=b:=by
 have key:∀a b,b<a->a<(kAt x i).Xb.length->(fAt x i a).Xj=(fAt x i b).Xj->False:=by
  intro a b hba ha h;have hE:Qjc x (kAt x i) (i:Int) (a:Int) (fAt x i a)=0:=by
   have hc':=hc;unfold QZ at hc';split at hc'
   ·simp only[append_eq_nil_iff] at hc';have h1:=flatMap_eq_nil_iff.1 hc'.1.2 i (ZD.2 hi);unfold QeK at h1;rw[(QhQ hi).2] at h1;have h2:=flatMap_eq_nil_iff.1 (append_eq_nil_iff.1 h1).2 a (ZD.2 ha);unfold Qgr at h2;rw[(Qkb ha).2] at h2;exact QkR h2
   ·cases hc'
  unfold Qjc at hE;split at hE
  ·cases hE
  ·next h1=>
   apply h1;unfold Q8 QaR
   cases hf:(kAt x i).Xb.findIdx? λk=>k.Xj==(fAt x i a).Xj with
   | none=>dsimp only;omega
   | some n=>
    dsimp only;obtain⟨hn,_,hb⟩:=ZC.1 hf;rcases Nat.lt_or_ge b n with hjn | hjn
    ·have:=hb b hjn;rw[h,(Qkb (by omega:b<(kAt x i).Xb.length)).1] at this;simp at this
    ·omega
 rcases Nat.lt_trichotomy a b with h' | h' | h'
 ·exact (key b a h' hb h.symm).elim
 ·exact h'
 ·exact (key a b h' ha h).elim
def Quh {x:Qb} (hc:QZ x=[]) {i j:Nat} (hi:i<x.Xc.length) (hj:j<x.Xc.length) (h:(rAt x i).Xj=(rAt x j).Xj):i=j:=by
 have key:∀i j,j<i->i<x.Xc.length->(rAt x i).Xj=(rAt x j).Xj->False:=by
  intro i j hji hi h;have hz:=QlP hc (Qmt hi).2;unfold QiB at hz;have h1:=(Qcr hz (by decide)).1;have:(x.Xc.take i).any (λs=>s.Xj==(rAt x i).Xj)=true:=by refine Yn.2 ⟨rAt x j,?_,by rw[h];simp⟩;rw[(Qmt (by omega:j<x.Xc.length)).1];exact mem_take_iff_getElem.2 ⟨j,by omega,rfl⟩
  rw[this] at h1;cases h1
 rcases Nat.lt_trichotomy i j with h' | h' | h'
 ·exact (key j i h' hj h.symm).elim
 ·exact h'
 ·exact (key i j h' hi h).elim
def QB5 {x:Qb} (hc:QZ x=[]) {a b:Tag} (ha:Real x a) (hb:Real x b) (h:strT x a=strT x b):a=b:=by
 have hv:=Qan hc;have nk:∀i,i<x.Xa.length->Q3 (kAt x i).Xj=true:=λi hi=>by have:=hv.kind _ (Zk hi);rw[<-(QhQ hi).1] at this;simp only[Qdq,Zi] at this;exact this.1.1.1
 have nf:∀i j,i<x.Xa.length->j<(kAt x i).Xb.length->Q3 (fAt x i j).Xj=true:=λi j hi hj=>by have hK:=hv.kind _ (Zk hi);rw[<-(QhQ hi).1] at hK;have:=(QbW hK).2.2 _ (Zk hj);rw[<-(Qkb hj).1] at this;simp only[QaG,Zi] at this;exact this.1.1
 have nr:∀i,i<x.Xc.length->Q3 (rAt x i).Xj=true:=λi hi=>by have:=hv.rule _ (Zk hi);rw[<-(Qmt hi).1] at this;simp only[QdK,Zi] at this;exact this.1.1.1.1.1
 have colon:∀a,Real x a->(∀i,a≠.r i)->(58:UInt8)∉strT x a:=by
  intro a ha hr
  cases a with
  | k i t=>unfold strT;rw[Zt,not_or];exact⟨(Qdf (nk i ha.1)).2.2,(Qnb t).2⟩
  | f i j t=>unfold strT dotN;rw[Zt,Zt,Zt,not_or,not_or,not_or];exact⟨⟨⟨(Qdf (nk i ha.1)).2.2,by decide⟩,(Qdf (nf i j ha.1 ha.2.1)).2.2⟩,(Qnb t).2⟩
  | r i=>exact absurd rfl (hr i)
 have colonR:∀i,(58:UInt8)∈strT x (.r i):=λi=>by unfold strT;exact mem_append_left _ (by decide)
 have dotK:∀i t,i<x.Xa.length->(46:UInt8)∉strT x (.k i t):=λi t hi=>by unfold strT;rw[Zt,not_or];exact⟨(Qdf (nk i hi)).2.1,(Qnb t).1⟩
 have dotF:∀i j t,(46:UInt8)∈strT x (.f i j t):=λi j t=>by unfold strT dotN;simp
 cases a with
 | k i t=>
  cases b with
  | k i' t'=>simp only[strT] at h;rw[Qoj,Qoj] at h;obtain⟨e1,e2⟩:=sep (Qdf (nk i ha.1)).1 (Qdf (nk i' hb.1)).1 h;rw[Qok hc ha.1 hb.1 e1,Qrx ha.2 hb.2 e2]
  | f i' j' t'=>exact absurd (by rw[h];exact dotF i' j' t') (dotK i t ha.1)
  | r i'=>exact absurd (by rw[h];exact colonR i') (colon _ ha (λ_ e=>by cases e))
 | f i j t=>
  cases b with
  | k i' t'=>exact absurd (by rw[<-h];exact dotF i j t) (dotK i' t' hb.1)
  | f i' j' t'=>simp only[strT,dotN,ZA,singleton_append] at h;obtain⟨e1,e2⟩:=sep (Qdf (nk i ha.1)).2.1 (Qdf (nk i' hb.1)).2.1 h;rw[Qoj,Qoj] at e2;obtain⟨e3,e4⟩:=sep (Qdf (nf i j ha.1 ha.2.1)).1 (Qdf (nf i' j' hb.1 hb.2.1)).1 e2;have:=Qok hc ha.1 hb.1 e1;subst this;rw[Qsh hc ha.1 ha.2.1 hb.2.1 e3,Qrx ha.2.2 hb.2.2 e4]
  | r i'=>exact absurd (by rw[h];exact colonR i') (colon _ ha (λ_ e=>by cases e))
 | r i=>
  cases b with
  | k i' t'=>exact absurd (by rw[<-h];exact colonR i) (colon _ hb (λ_ e=>by cases e))
  | f i' j' t'=>exact absurd (by rw[<-h];exact colonR i) (colon _ hb (λ_ e=>by cases e))
  | r i'=>simp only[strT] at h;rw[Quh hc ha hb (append_cancel_left h)]
def QwF (x:Qb):∀a∈Qmr x++(Qms x++QkY x),Real x a:=by
 intro a ha;rcases Zt.1 ha with ha | ha
 ·obtain⟨i,hi,ha⟩:=ZM.1 ha;have hi:=ZD.1 hi;rcases Zt.1 ha with ha | ha
  ·simp only[Zp,ZN,Yd] at ha;rcases ha with rfl | rfl
   ·exact⟨hi,by omega⟩
   ·exact⟨hi,by omega⟩
  ·obtain⟨j,hj,ha⟩:=ZM.1 ha;have hj:=ZD.1 hj;rcases QoZ ha with rfl | rfl
   ·exact⟨hi,hj,by omega⟩
   ·exact⟨hi,hj,by omega⟩
 ·rcases Zt.1 ha with ha | ha
  ·obtain⟨i,hi,ha⟩:=ZM.1 ha;have hi:=ZD.1 hi;obtain⟨j,hj,ha⟩:=ZM.1 ha;have hj:=ZD.1 hj;rcases Qo0 ha with rfl | rfl
   ·exact⟨hi,hj,by omega⟩
   ·exact⟨hi,hj,by omega⟩
  ·obtain⟨i,hi,rfl⟩:=ZE.1 ha;exact ZD.1 hi
def QjP {x:Qb} (hc:QZ x=[]):(QaK x).Nodup:=by rw[Quf hc];show Pairwise _ _;rw[pairwise_map];have hn:Pairwise (·≠·) (Qmr x++(Qms x++QkY x)):=Qug x;have hr:=QwF x;refine (Pairwise.and_mem.1 hn).imp λ⟨ha,hb,hne⟩ e=>hne (QB5 hc (hr _ ha) (hr _ hb) e)
def QgF {α σ:Type} (step:α->σ->Option σ):List α->σ->Option σ
 | [],s=>some s
 | a::l,s=>(step a s).bind (QgF step l)
def QgG {α σ:Type} (step:α->σ->Option σ) (a:α) (l:List α) (s:σ):QgF step (a::l) s=(step a s).bind (QgF step l):=rfl
def QpE {α σ ρ:Type} (l:List α) (step:α->σ->Option σ) (I:σ->Prop) (bad:ρ) (hI:∀a∈l,∀s s',I s->step a s=some s'->I s') {body:Int×σ->Option ((Int×σ)⊕(σ⊕ρ))}
  (hb:∀k (h:k<l.length) s,I s->body ((k:Int),s)=some (match step l[k] s with | some s'=>.inl (((k+1:Nat):Int),s') | none=>.inr (.inr bad))) (he:∀s,body ((l.length:Int),s)=some (.inr (.inl s))) {s:σ} (hs:I s):
  Qm body ((0:Int),s)=some (match QgF step l s with | some s'=>.inl s' | none=>.inr bad):=by
 have key:∀m k s,k+m=l.length->I s->Qm body ((k:Int),s)=some (match QgF step (l.drop k) s with | some s'=>.inl s' | none=>.inr bad):=by
  intro m
  induction m with
  | zero=>
   intro k s hk hs;have:k=l.length:=by omega
   subst this;rw[Qac,he,YA];rfl
  | succ m ih=>
   intro k s hk hs;have hkl:k<l.length:=by omega
   rw[Qac,hb k hkl s hs,Yl hkl];unfold QgF
   cases h:step l[k] s with
   | none=>rfl
   | some s'=>simp only[Za];exact ih (k+1) s' (by omega) (hI _ (Zk hkl) s s' hs h)
 have:=key l.length 0 s (by omega) hs;simpa using this
def Qnc {α σ:Type} (l:List α) (step:α->σ->σ) (I:σ->Prop) (hI:∀a∈l,∀s,I s->I (step a s)) {body:Int×σ->Option ((Int×σ)⊕σ)}
  (hb:∀k (h:k<l.length) s,I s->body ((k:Int),s)=some (.inl (((k+1:Nat):Int),step l[k] s))) (he:∀s,body ((l.length:Int),s)=some (.inr s)) {s:σ} (hs:I s):
  Qm body ((0:Int),s)=some (l.foldl (λs a=>step a s) s):=by
 have key:∀m k s,k+m=l.length->I s->Qm body ((k:Int),s)=some ((l.drop k).foldl (λs a=>step a s) s):=by
  intro m
  induction m with
  | zero=>
   intro k s hk hs;have:k=l.length:=by omega
   subst this;rw[Qac,he,YA];rfl
  | succ m ih=>
   intro k s hk hs;have hkl:k<l.length:=by omega
   rw[Qac,hb k hkl s hs,Yl hkl,foldl_cons];exact ih (k+1) _ (by omega) (hI _ (Zk hkl) s hs)
 have:=key l.length 0 s (by omega) hs;simpa using this
def sel {α:Type} (l:List α) (p:Nat->Bool) (d:α):List α:=((range l.length).filter p).map λi=>l.getD i d
def Qmv {α:Type} {l:List α} {p:Nat->Bool} {d a:α}:a∈sel l p d↔∃i,l[i]?=some a/\p i=true:=by
 unfold sel;simp only[ZE,Yj,ZD];constructor
 ·rintro ⟨i,⟨h1,h2⟩,rfl⟩;exact⟨i,by rw[Zf,Zb h1];rfl,h2⟩
 ·rintro ⟨i,h1,h2⟩;obtain⟨hi,e⟩:=Zg.1 h1;exact⟨i,⟨hi,h2⟩,by rw[Zf,h1];rfl⟩
def QlU {α σ:Type} (step:α->σ->Option σ) (f:Nat->α) (p:Nat->Bool):∀(l:List Nat) (s:σ),QgF (λi s=>if p i=true then step (f i) s else some s) l s=QgF step ((l.filter p).map f) s
 | [],s=>rfl
 | i::l,s=>by
  rw[filter_cons,QgG]
  cases hp:p i with
  | true=>
   rw[Zc rfl,Zc rfl,Yf,QgG]
   cases step (f i) s with
   | none=>rfl
   | some s'=>exact QlU step f p l s'
  | false=>rw[Zd (by simp),Zd (by simp)];exact QlU step f p l s
def upc (s:List Int×Bool) (k m:Int):List Int×Bool:=if nth s.1 k<m then (s.1.set k.toNat m,true) else s
def QwG (v:List Int) (c:Bool) {k m:Int} (k0:0<=k) (k1:k<v.length):upc (v,c) k m=(up1 v k m,c||decide (up1 v k m≠v)):=by
 have h:=QkT (m:=m) k0 k1;by_cases hlt:nth v k<m
 ·have h1:up1 v k m≠v:=λe=>by have:=h.1 e;omega
  have h2:up1 v k m=v.set k.toNat m:=by unfold up1;rw[Zc hlt]
  rw[decide_eq_true h1,Bool.or_true,h2];unfold upc;rw[Zc hlt]
 ·have h1:up1 v k m=v:=h.2 (by omega);rw[h1];unfold upc;rw[Zd hlt];simp
def Qmw (y:Qk) (s:List Int×Bool):Option (List Int×Bool):=if rsB y s.1=true then some (upc s (rsK y) (rsN y s.1)) else none
def Qry {n:Nat}:∀(l:List Qk) (v:List Int) (c:Bool),(∀y∈l,VL y n)->v.length=n->QgF Qmw l (v,c)=(rndL l v).map λw=>(w,c||decide (w≠v))
 | [],v,c,_,_=>by simp[QgF,rndL]
 | y::l,v,c,hl,hv=>by
  have hk:=Qii (hl y (Zn ..));have hk2:rsK y<v.length:=by rw[hv];exact hk.2
  have e0:Qmw y (v,c)=if rsB y v=true then some (upc (v,c) (rsK y) (rsN y v)) else none:=rfl;rw[QgG,e0];unfold rndL
  cases hb:rsB y v with
  | false=>rfl
  | true=>
   rw[Zc rfl,Zc rfl,Za,QwG v c hk.1 hk2,Qry l _ _ (λz hz=>hl z (Zs _ hz)) ((QcS ..).trans hv)]
   cases hr:rndL l (up1 v (rsK y) (rsN y v)) with
   | none=>rfl
   | some w=>
    have h1:=Qih (m:=rsN y v) hk.1 hk2;have h2:=QiX l _ w (λz hz=>hl z (Zs _ hz)) ((QcS ..).trans hv) hr;simp only[Yb];congr 2;rw[Bool.or_assoc];congr 1;rw[ZO];simp only[ne_eq,decide_not,Zz,Yq,ZJ];constructor
    ·rintro (h | h) e
     ·exact h (h2.anti (by rw[e];exact h1) |>.trans e)
     ·exact h (by rw[e];exact (h1.anti (by rw[e] at h2;exact h2)))
    ·intro h;by_cases e:up1 v (rsK y) (rsN y v)=v
     ·exact .inr λe2=>h (e2.trans e)
     ·exact .inl e
def Qol (r:Int×Int) (s:List Int×Bool):List Int×Bool:=upc s r.2 (imin 1 (nth s.1 r.1))
def Qrz {n:Nat}:∀(l:List (Int×Int)) (v:List Int) (c:Bool),(∀r∈l,0<=r.2/\r.2<n)->v.length=n->l.foldl (λs r=>Qol r s) (v,c)=(rndR l v,c||decide (rndR l v≠v))
 | [],v,c,_,_=>by simp[rndR]
 | r::l,v,c,hl,hv=>by
  have hk:=hl r (Zn ..);have hk2:r.2<v.length:=by rw[hv];exact hk.2
  rw[foldl_cons];unfold rndR;have e0:Qol r (v,c)=(up1 v r.2 (imin 1 (nth v r.1)),c||decide (up1 v r.2 (imin 1 (nth v r.1))≠v)):=QwG v c hk.1 hk2;rw[e0,Qrz l _ _ (λz hz=>hl z (Zs _ hz)) ((QcS ..).trans hv)];have h1:=Qih (m:=imin 1 (nth v r.1)) hk.1 hk2;have h2:=QiY l (up1 v r.2 (imin 1 (nth v r.1))) (λz hz=>hl z (Zs _ hz)) ((QcS ..).trans hv);congr 1;rw[Bool.or_assoc];congr 1;rw[ZO];simp only[ne_eq,decide_not,Zz,Yq,ZJ];constructor
  ·rintro (h | h) e
   ·exact h (h2.anti (by rw[e];exact h1) |>.trans e)
   ·exact h (by rw[e];exact (h1.anti (by rw[e] at h2;exact h2)))
  ·intro h;by_cases e:up1 v r.2 (imin 1 (nth v r.1))=v
   ·exact .inr λe2=>h (e2.trans e)
   ·exact .inl e
def Qyz {n:Nat} {y:Qk} {v:List Int} (hy:VL y n) (hv:v.length=n):QgR y v=some (rsK y,rsN y v,rsB y v):=by
 have:=hy.a0;have:=hy.a1;have:=hy.b0;have:=hy.b1;unfold QgR rsK rsN rsB rsO;have ha:idx v y.A=some (nth v y.A):=QfR hy.a0 (by omega);have e:(if (decide (y.B>=(0:Int)))=true then (idx v y.B).bind λt14=>some t14 else some (1:Int))=some (if y.B>=0 then nth v y.B else 1):=by
  by_cases hb:y.B>=0
  ·rw[Zc (by simpa using hb),Zc hb,QfR hb (by omega)];rfl
  ·rw[Zd (by simpa using hb),Zd hb]
 rw[e];simp only[Za];by_cases hL:y.Xh=true
 ·rw[Zc hL,Zc hL,Zc hL,Zc hL]
 ·rw[Zd hL,Zd hL,Zd hL,Zd hL];by_cases hF:rsF y=true
  ·rw[Zc hF,Zc hF,Zc hF];unfold rsF at hF;rw[Zc hF,ha];rfl
  ·rw[Zd hF,Zd hF,Zd hF];have hF':=hF;unfold rsF at hF;rw[Zd hF,ha];simp only[rsF,Zz,Zo,ZW,not_or] at hF';simp only[Za];rw[QnZ hF'.2];rfl
def QwH {v:List Int} {c:Bool} {k m:Int} (k0:0<=k) (k1:k<v.length):QbF k m v c=some (upc (v,c) k m):=by
 unfold QbF upc;rw[QfR k0 k1];simp only[Za];by_cases h:nth v k<m
 ·rw[Zc (by simpa using h),Zc h];unfold setAt;rw[Zc ⟨k0,k1⟩];rfl
 ·rw[Zd (by simpa using h),Zd h];rfl
def QpF {n:Nat} {E:Int->Bool} {w:List Int} {body:Int->Option (Int⊕(Unit⊕Bool))}
  (hb:∀k:Nat,k<n->body (k:Int)=some (if (decide (65536<nth w (k:Int))||(decide (0<nth w (k:Int))&&E (k:Int)))=true then .inr (.inr false) else .inl ((k+1:Nat):Int))) (he:body (n:Int)=some (.inr (.inl ()))):
  Qm body (0:Int)=some (if over E n w=true then .inr false else .inl ()):=by
 have h3:∀k,k<n->(λk:Nat=>decide (65536<nth w (k:Int))||(decide (0<nth w (k:Int))&&E (k:Int))) k=false->body (k:Int)=some (.inl ((k+1:Nat):Int)):=λk hk h=>by rw[hb k hk];dsimp only at h;rw[h];rfl
 have h4:∀k,k<n->(λk:Nat=>decide (65536<nth w (k:Int))||(decide (0<nth w (k:Int))&&E (k:Int))) k=true->body (k:Int)=some (.inr (.inr false)):=λk hk h=>by rw[hb k hk];dsimp only at h;rw[h];rfl
 rcases Qhs (body:=body) n _ (.inl ()) (λ_=>.inr false) h3 h4 he with⟨k,hk,h1,_,h2⟩ | ⟨h1,h2⟩
 ·rw[h2,Zc];unfold over;exact Yn.2 ⟨k,ZD.2 hk,h1⟩
 ·rw[h2,Zd];unfold over;rw[Yn];rintro ⟨k,hk,h⟩;rw[h1 k (ZD.1 hk)] at h;cases h
def refP (l:List QR):List (Int×Int):=l.map λr=>(r.a0,r.a1)
structure StOk (n:Nat) (L:List Qk) (R:List QR):Prop where
 few:n<=6
 lim:∀y∈L,VL y n
 refs:∀r∈R,(0<=r.a0/\r.a0<n)/\(0<=r.a1/\r.a1<n)
 len:L.length<=1000
 rlen:R.length<=1000
def StOk.refP {n:Nat} {L:List Qk} {R:List QR} (h:StOk n L R):∀p∈refP R,(0<=p.1/\p.1<n)/\(0<=p.2/\p.2<n):=λp hp=>by obtain⟨r,hr,rfl⟩:=ZE.1 hp;exact h.refs r hr
def zL:Qk:=⟨0,0,0,false⟩
def Qom {n:Nat} {L:List Qk} (h:∀y∈L,VL y n) (p:Nat->Bool):∀y∈sel L p zL,VL y n:=λy hy=>by obtain⟨i,hi,_⟩:=Qmv.1 hy;exact h y (Zr hi)
def QjQ {s:Qa8} {n:Nat} (hn:s.x.Xa.length=n) (hs:StOk n s.Xo s.refs) {fl fe:Int->Option Bool} {p:Nat->Bool} {E:Int->Bool} (hl:∀i:Nat,i<s.Xo.length->fl (i:Int)=some (p i)) (he:∀k:Nat,k<n->fe (k:Int)=some (E (k:Int))):
  QaJ s fl fe=some (QhA E n (sel s.Xo p zL) (refP s.refs)):=by
 have hfew:=hs.few;have hL:=hs.len;have hR:=hs.rlen;unfold QaJ;rw[hn,Qht n (0:Int) (by omega)];simp only[Za];rw[Qpz (E:=E) (Qom hs.lim p) hs.refP (λb=>if b=true then Sum.inl () else Sum.inr false) (λv hv hz=>?_)]
 ·simp only[Za];cases QhA E n (sel s.Xo p zL) (refP s.refs)<;>rfl
 ·have hset:∀(k m:Int) (t:List Int×Bool),0<=k->k<n->t.1.length=n->(upc t k m).1.length=n:=λk m t _ _ ht=>by
   unfold upc;split
   ·simpa using ht
   ·exact ht
  rw[QpE (range s.Xo.length) (λi t=>if p i=true then Qmw (s.Xo.getD i zL) t else some t) (λt=>t.1.length=n) false ?hI ?hb ?he (s:=(v,false)) hv]
  case hI=>
   intro i hi t t' ht h;split at h
   ·unfold Qmw at h;split at h
    ·obtain rfl:=Zu h;have hi:=ZD.1 hi;have hy:=hs.lim _ (Zk hi);have hk:=Qii hy;rw[Zf,Zb hi];exact hset _ _ t hk.1 hk.2 ht
    ·cases h
   ·obtain rfl:=Zu h;exact ht
  case hb=>
   intro k hk t ht;rw[ZL] at hk;have hy:=hs.lim _ (Zk hk);have hkk:=Qii hy;have hg:s.Xo.getD k zL=s.Xo[k]:=by rw[Zf,Zb hk];rfl
   dsimp only;rw[Zc (by simpa using hk),getElem_range,hg];unfold jn;rw[QI hk];simp only[Za];rw[hl k hk];simp only[Za]
   cases hp:p k with
   | false=>rw[Zc (show (!false)=true from rfl),Zd (show ¬(false=true) by decide),Qw hk (by omega)]
   | true=>
    rw[Zd (show ¬((!true)=true) by decide),Zc rfl,Qyz hy ht];simp only[Za];unfold Qmw
    cases hb:rsB s.Xo[k] t.1 with
    | false=>rw[Zc (show (!false)=true from rfl),Zd (show ¬(false=true) by decide)]
    | true=>rw[Zd (show ¬((!true)=true) by decide),Zc rfl,QwH hkk.1 (by rw[ht];exact hkk.2)];simp only[Za];rw[Qw hk (by omega)]
  case he=>intro t;dsimp only;rw[ZL,Zd (by simp)]
  rw[QlU Qmw (λi=>s.Xo.getD i zL) p];rw[show ((range s.Xo.length).filter p).map (λi=>s.Xo.getD i zL)=sel s.Xo p zL from rfl,Qry _ v false (Qom hs.lim p) hv];unfold rnd
  cases hu:rndL (sel s.Xo p zL) v with
  | none=>rfl
  | some u=>
   have hvu:=QiX _ v u (Qom hs.lim p) hv hu;have hul:u.length=n:=hvu.1.symm.trans hv;simp only[Yb,Za,Bool.false_or];rw[Qnc s.refs (λr t=>Qol (r.a0,r.a1) t) (λt=>t.1.length=n) (λr hr t ht=>hset _ _ t (hs.refs r hr).2.1 (hs.refs r hr).2.2 ht) (λk hk t ht=>?_) (λt=>by rw[Zd (by simp)]) (s:=(u,decide (u≠v))) hul]
   ·have e1:s.refs.foldl (λt r=>Qol (r.a0,r.a1) t) (u,decide (u≠v))=(refP s.refs).foldl (λt r=>Qol r t) (u,decide (u≠v)):=by
     unfold Go.Proofs.YtlajingmjmnfgaaGreatDoor.refP;rw[foldl_map]
    rw[e1,Qrz (n:=n) _ _ _ (λr hr=>(hs.refP r hr).2) hul];have huw:=QiY (n:=n) (refP s.refs) u (λr hr=>(hs.refP r hr).2) hul;generalize hw:rndR (refP s.refs) u=w at huw ⊢;have hwl:w.length=n:=huw.1.symm.trans hul;simp only[Za];rw[QpF (n:=n) (E:=E) (w:=w) (λk hk=>?_) (by rw[hwl,Zd (by simp)])]
    ·have e2:(decide (u≠v)||decide (w≠u))=decide (w≠v):=by
      rw[ZO];simp only[ne_eq,decide_not,Zz,Yq,ZJ];constructor
      ·rintro (h | h) e
       ·exact h (huw.anti (by rw[e];exact hvu) |>.trans e)
       ·exact h (by rw[e];exact (hvu.anti (by rw[e] at huw;exact huw)))
      ·intro h;by_cases e:u=v
       ·exact .inr λe2=>h (e2.trans e)
       ·exact .inl e
     rw[e2];simp only[Za]
     cases ho:over E n w with
     | true=>rfl
     | false=>
      by_cases e:w=v
      ·simp[e]
      ·simp[e]
    ·have hi:=QfR (c:=w) (i:=(k:Int)) (by omega) (by omega);rw[hwl,Zc (by simpa using hk),hi];simp only[Za];have hop:(opt (((decide (nth w (k:Int)>(65536:Int)))==false)&&((decide (nth w (k:Int)>(0:Int)))==true)) (fe (k:Int)) default)=some (if (((decide (nth w (k:Int)>(65536:Int)))==false)&&((decide (nth w (k:Int)>(0:Int)))==true))=true then E (k:Int) else default):=by
      unfold opt;split
      ·exact he k hk
      ·rfl
     rw[hop];simp only[Za];rw[Qw hk (by omega)];have e3:((decide (nth w (k:Int)>(65536:Int)))||((decide (nth w (k:Int)>(0:Int)))&&(if (((decide (nth w (k:Int)>(65536:Int)))==false)&&((decide (nth w (k:Int)>(0:Int)))==true))=true then E (k:Int) else default)))=(decide (65536<nth w (k:Int))||(decide (0<nth w (k:Int))&&E (k:Int))):=by
      by_cases h1:nth w (k:Int)>65536
      ·simp[h1]
      ·by_cases h2:nth w (k:Int)>0
       ·simp[h1,h2]
       ·simp[h1,h2]
     rw[e3];split<;>rfl
   ·have hr:=hs.refs _ (Zk hk);rw[Zc (by simpa using hk),QI hk];simp only[Za];rw[QfR hr.1.1 (by rw[ht];exact hr.1.2)];simp only[Za];rw[QwH hr.2.1 (by rw[ht];exact hr.2.2)];simp only[Za];rw[Qw hk (by omega)];rfl
def Pos (n:Nat) (v:List Int):Prop:=v.length=n/\∀z∈v,0<=z/\z<=9223372036854775807
def Pos.up {n:Nat} {v:List Int} (h:Pos n v) {k m:Int} (k0:0<=k) (k1:k<n) (hm:m<=9223372036854775807):Pos n (up1 v k m):=⟨(QcS ..).trans h.1,λz hz=>by obtain⟨i,i0,i1,rfl⟩:=QiV hz;rw[QcS] at i1;rw[QiW k0 (by rw[h.1];exact k1) i0];have h1:=h.2 _ (Qcj k0 (by rw[h.1];exact k1));have h2:=h.2 _ (Qcj i0 i1);split<;>omega⟩
def Qo1 {v:List Int} {k m:Int} (k0:0<=k) (k1:k<v.length):setAt v k (imax (nth v k) m)=some (up1 v k m):=by
 unfold setAt imax up1;rw[Zc ⟨k0,k1⟩];by_cases h:m>nth v k
 ·rw[Zc h,Zc (by omega)]
 ·rw[Zd h,Zd (by omega)];obtain⟨j,rfl⟩:=Zy k0;have hj:j<v.length:=by omega
  rw[Qml hj,Zq,set_getElem_self]
def Qnd {n:Nat} {v:List Int} (h:Pos n v) {k:Int} (k0:0<=k) (k1:k<n) {m:Int} (hm:m<=0):up1 v k m=v:=by refine (QkT k0 (by rw[h.1];exact k1)).2 ?_;have:=(h.2 _ (Qcj k0 (by rw[h.1];exact k1))).1;omega
def Qh2 (y:Qk) (v:List Int):Option (List Int):=if rsB y v=true then some (up1 v (rsK y) (rsN y v)) else none
def QrA:∀(l:List Qk) (v:List Int),QgF Qh2 l v=rndL l v
 | [],v=>rfl
 | y::l,v=>by
  have e0:Qh2 y v=if rsB y v=true then some (up1 v (rsK y) (rsN y v)) else none:=rfl;rw[QgG,e0];unfold rndL;split
  ·rw[Za];exact QrA l _
  ·rfl
def QrB:∀(a b:List (Int×Int)) (v:List Int),rndR (a++b) v=rndR b (rndR a v)
 | [],b,v=>rfl
 | r::a,b,v=>by show rndR (a++b) (up1 v r.2 (imin 1 (nth v r.1)))=rndR b (rndR a (up1 v r.2 (imin 1 (nth v r.1))));exact QrB a b _
def QlV (F:Nat->List (Int×Int)):∀(l:List Nat) (v:List Int),l.foldl (λv i=>rndR (F i) v) v=rndR (l.flatMap F) v
 | [],v=>rfl
 | i::l,v=>by rw[foldl_cons,flatMap_cons,QrB];exact QlV F l _
def Qne {n:Nat}:∀(l:List (Int×Int)) (v:List Int),(∀r∈l,0<=r.2/\r.2<n)->Pos n v->Pos n (rndR l v)
 | [],v,_,h=>h
 | r::l,v,hl,h=>by have hk:=hl r (Zn ..);unfold rndR;exact Qne l _ (λz hz=>hl z (Zs _ hz)) (h.up hk.1 hk.2 (by unfold imin;split<;>omega))
def Qsi {n:Nat} {y:Qk} {v:List Int} (hy:VL y n) (hv:Pos n v) {β:Type} {r:Qv} (e:toC r=y) (bad:Option β) (go:List Int->Option β):
  (if r.Xh=true then (setAt v r.A (imax (nth v r.A) (i64.wrap (r.Mul * (if r.B>=0 then nth v r.B else 1))))).bind go
   else if (((decide (nth v r.A>(0:Int)))&&(r.Mul==(0:Int)))||((decide (r.B<(0:Int)))&&(decide (nth v r.A>r.Mul))))=true then bad
   else (if ((decide (r.B>=(0:Int)))&&(decide (nth v r.A>(0:Int))))=true then (nz r.Mul).bind λ_=>(setAt v r.B (imax (if r.B>=0 then nth v r.B else 1) (i64.wrap (Int.tdiv (i64.wrap ((i64.wrap (nth v r.A+r.Mul)) - (1:Int))) r.Mul)))).bind λw=>some w else some v).bind go)=match Qh2 y v with | some w=>go w | none=>bad:=by
 subst e;have a0:0<=r.A:=hy.a0;have a1:r.A<n:=hy.a1;have b0:-1<=r.B:=hy.b0;have b1:r.B<n:=hy.b1;have m0:0<=r.Mul:=hy.m0;have m1:r.Mul<=65536:=hy.m1;have hA:=hv.2 _ (Qcj a0 (by rw[hv.1];exact a1):nth v r.A∈v);have e0:Qh2 (toC r) v=if rsB (toC r) v=true then some (up1 v (rsK (toC r)) (rsN (toC r) v)) else none:=rfl;rw[e0];have eB:rsB (toC r) v=if r.Xh=true then true else if rsF (toC r)=true then decide (nth v r.A<=r.Mul) else true:=rfl;have eK:rsK (toC r)=if r.Xh=true then r.A else if rsF (toC r)=true then r.A else r.B:=rfl;have eN:rsN (toC r) v=if r.Xh=true then i64.wrap (r.Mul * (if r.B>=0 then nth v r.B else 1)) else if rsF (toC r)=true then 0 else i64.wrap (Int.tdiv (i64.wrap (i64.wrap (nth v r.A+r.Mul) - 1)) r.Mul):=rfl;have eF:rsF (toC r)=(decide (r.B<0)||(r.Mul==0)):=rfl;rw[eB,eK,eN]
 cases hL:r.Xh with
 | true=>simp only[if_true];rw[Qo1 a0 (by rw[hv.1];exact a1)];rfl
 | false=>
  simp only[ZB,if_false];by_cases hF:rsF (toC r)=true
  ·rw[Zc hF,Zc hF,Zc hF];rw[eF] at hF;simp only[Zz,Zo,ZW] at hF;by_cases hle:nth v r.A<=r.Mul
   ·rw[Zd (by simp only[Zz,Zi,Zo,ZW];omega),Zc (decide_eq_true hle),Qnd hv a0 a1 (ZR _),Zd (by simp only[Zi,Zo];omega)];rfl
   ·rw[Zc (by simp only[Zz,Zi,Zo,ZW];omega),Zd (by simpa using hle)]
  ·rw[Zd hF,Zd hF,Zd hF,Zc rfl];rw[eF] at hF;simp only[Zz,Zo,ZW,not_or] at hF;rw[Zd (by simp only[Zz,Zi,Zo,ZW];omega)];by_cases hp:nth v r.A>0
   ·rw[Zc (by simp only[Zi,Zo];omega),QnZ hF.2,Zc (by omega)];simp only[Za];rw[Qo1 (by omega) (by rw[hv.1];exact b1)];rfl
   ·rw[Zd (by simp only[Zi,Zo];omega)];have hz:nth v r.A=0:=by omega
    rw[hz,w64 (n:=0+r.Mul) (by omega) (by omega),w64 (n:=0+r.Mul - 1) (by omega) (by omega),Int.tdiv_eq_ediv_of_nonneg (by omega),Int.ediv_eq_zero_of_lt (by omega) (by omega),Qx9,Qnd hv (by omega) b1 (ZR _)];rfl
def opt3 {β:Type} (r:Qv) (a:Int) (F:Bool->Option β):
  ((opt ((decide (a>(0:Int)))==true) (some r) default).bind λt72=>(opt (((decide (a>(0:Int)))&&((t72).Mul==(0:Int)))==false) (some r) default).bind λt80=>(opt ((((decide (a>(0:Int)))&&((t72).Mul==(0:Int)))==false)&&((decide ((t80).B<(0:Int)))==true)) (some r) default).bind λt88=>F (((decide (a>(0:Int)))&&((t72).Mul==(0:Int)))||((decide ((t80).B<(0:Int)))&&(decide (a>(t88).Mul)))))=F (((decide (a>(0:Int)))&&(r.Mul==(0:Int)))||((decide (r.B<(0:Int)))&&(decide (a>r.Mul)))):=by
 unfold opt;by_cases h1:a>0
 ·by_cases h2:r.Mul=0
  ·simp[h1,h2]
  ·by_cases h3:r.B<0
   ·simp[h1,h2,h3]
   ·simp[h1,h2,h3]
 ·by_cases h3:r.B<0
  ·simp[h1,h3]
  ·simp[h1,h3]
def QwI {x:Qb} (hc:QZ x=[]) {i j:Nat} (hi:i<x.Xa.length) (hj:j<x.Xa[i].Xb.length) (hk:x.Xa[i].Xb[j].Xi=1):0<=upIx x (i:Int) (j:Int)/\upIx x (i:Int) (j:Int)<(x.Xa.length:Int):=by have h1:=Qre (Qt5 hc (QI hi) (Qrv hi hj)) (.inl hk);have h2:=(QoQ x (i:Int) (j:Int) (by omega)).1;exact⟨h1,by omega⟩
def Qs9 {x:Qb} (hc:QZ x=[]) {i j:Nat} (hi:i<x.Xa.length):∀r∈refF x i x.Xa[i] j,(0<=r.a0/\r.a0<(x.Xa.length:Int))/\(0<=r.a1/\r.a1<(x.Xa.length:Int)):=by
 intro r hr;unfold refF at hr;by_cases hj:j<x.Xa[i].Xb.length
 ·rw[Zb hj] at hr;dsimp only at hr;split at hr
  ·next hk=>obtain rfl:=Zh.1 hr;have:=QwI hc hi hj (by simpa using hk);exact⟨⟨by dsimp only;omega,by dsimp only;omega⟩,this⟩
  ·cases hr
 ·rw[getElem?_eq_none (by omega)] at hr;cases hr
def Qta {x:Qb} (hc:QZ x=[]) {i:Nat} (hi:i<x.Xa.length):∀r∈refK x i,(0<=r.a0/\r.a0<(x.Xa.length:Int))/\(0<=r.a1/\r.a1<(x.Xa.length:Int)):=by intro r hr;unfold refK at hr;rw[Zb hi] at hr;obtain⟨j,_,hr⟩:=ZM.1 hr;exact Qs9 hc hi r hr
def QyA {x:Qb} (hc:QZ x=[]):∀r∈QeL x,(0<=r.a0/\r.a0<(x.Xa.length:Int))/\(0<=r.a1/\r.a1<(x.Xa.length:Int)):=by intro r hr;obtain⟨i,hi,hr⟩:=ZM.1 hr;exact Qta hc (ZD.1 hi) r hr
def Qh3 {x:Qb} (hc:QZ x=[]):StOk x.Xa.length (limL Qk.mk x) (QeL x) where
 few:=(Qan hc).kinds
 lim:=λy hy=>(QwE hc y hy).1
 refs:=QyA hc
 len:=by have hv:=Qan hc;have h1:=Qa7 x.Xa.length (kndL Qk.mk x) 22 λj _=>(QiU Qk.mk hv j).1;have:=hv.kinds;unfold limL;omega
 rlen:=by have:=Qwp (Qan hc);omega
def QwJ {x:Qb} (hs:Qb4 x) (hc:QZ x=[]) {l:List Qv} (hl:∀y∈l,VL (toC y) x.Xa.length) (hlen:l.length<=1000) {v:List Int} (hv:Pos x.Xa.length v):
  QfG x l v=some (match rndL (l.map toC) v with | some u=>(rndR (refP (QeL x)) u,true) | none=>([],false)):=by
 have hfew:Few x:=hs.few;have hk6:=(Qan hc).kinds;unfold QfG;have hvl:=hv.1;rw[QaT (by simp;omega)];simp only[Za,Ye];rw[QpE l (λr v=>Qh2 (toC r) v) (Pos x.Xa.length) (([]:List Int),false) (λr hr u w hu hw=>?_) (λk hk u hu=>?_) (λu=>by rw[Zd (by simp)]) hv]
 ·have e0:∀(l:List Qv) (v:List Int),QgF (λr v=>Qh2 (toC r) v) l v=QgF Qh2 (l.map toC) v:=by
   intro l
   induction l with
   | nil=>intro v;rfl
   | cons r l ih=>
    intro v;rw[Yf,QgG,QgG]
    cases Qh2 (toC r) v with
    | none=>rfl
    | some w=>exact ih w
  rw[e0,QrA]
  cases hu:rndL (l.map toC) v with
  | none=>rfl
  | some u=>
   have hvu:=QoU (n:=x.Xa.length) (P:=λ_=>True) (R:=λ_ _=>False) (E:=λ_=>False) (l.map toC) v;have hpu:Pos x.Xa.length u:=by
    have:∀(l:List Qk) (v u:List Int),(∀y∈l,VL y x.Xa.length)->Pos x.Xa.length v->rndL l v=some u->Pos x.Xa.length u:=by
     intro l
     induction l with
     | nil=>intro v u _ hv h;obtain rfl:=Zu h;exact hv
     | cons y l ih=>
      intro v u hl hv h;have hk:=Qii (hl y (Zn ..));unfold rndL at h;split at h
      ·exact ih _ u (λz hz=>hl z (Zs _ hz)) (hv.up hk.1 hk.2 (Qrk ..)) h
      ·cases h
    exact this _ v u (λy hy=>by obtain⟨r,hr,rfl⟩:=ZE.1 hy;exact hl r hr) hv hu
   clear hvu;simp only[Za];rw[Qnc (range x.Xa.length) (λi v=>rndR (refP (refK x i)) v) (Pos x.Xa.length) (λi hi w hw=>?_) (λi hi w hw=>?_) (λw=>by rw[ZL,Zd (by simp)]) hpu]
   ·simp only[Za];rw[QlV (λi=>refP (refK x i))];have e1:((range x.Xa.length).flatMap λi=>refP (refK x i))=refP (QeL x):=by
     unfold refP QeL;rw[map_flatMap]
    rw[e1]
   ·exact Qne _ _ (λp hp=>by obtain⟨r,hr,rfl⟩:=ZE.1 hp;exact (Qta hc (ZD.1 hi) r hr).2) hw
   ·rw[ZL] at hi;have hf10:=(QbW ((Qan hc).kind _ (Zk hi))).2.1;rw[Zc (by simpa using hi),getElem_range];rw[Qnc (range x.Xa[i].Xb.length) (λj v=>rndR (refP (refF x i x.Xa[i] j)) v) (Pos x.Xa.length) (λj _ z hz=>?_) (λj hj z hz=>?_) (λz=>by rw[ZL,QI hi];simp only[Za];rw[Zd (by simp)]) hw]
    ·simp only[Za];rw[QlV (λj=>refP (refF x i x.Xa[i] j)),Qw hi (by omega)];have e1:((range x.Xa[i].Xb.length).flatMap λj=>refP (refF x i x.Xa[i] j))=refP (refK x i):=by
      unfold refP refK;rw[Zb hi];dsimp only;rw[map_flatMap]
     rw[e1]
    ·exact Qne _ _ (λp hp=>by obtain⟨r,hr,rfl⟩:=ZE.1 hp;exact (Qs9 hc hi r hr).2) hz
    ·rw[ZL] at hj;rw[QI hi];simp only[Za];rw[Zc (by simpa using hj),QI hj,getElem_range];simp only[Za];have hzi:idx z (i:Int)=some (nth z (i:Int)):=QfR (by omega) (by rw[hz.1];omega);have e2:refF x i x.Xa[i] j=if (x.Xa[i].Xb[j].Xi==1)=true then [QR.mk (i:Int) (upIx x (i:Int) (j:Int))] else []:=by unfold refF;rw[Zb hj]
     rw[e2,Qw hj (by omega)];by_cases hk:x.Xa[i].Xb[j].Xi=1
     ·have hk':(x.Xa[i].Xb[j].Xi==(1:Int))=true:=by simpa using hk
      obtain⟨u0,u1⟩:=QwI hc hi hj hk;rw[hk',Zc rfl];simp only[opt,beq_self_eq_true,if_true];rw[hzi];simp only[Za,Bool.true_and];have hzz:=hz.2 _ (Qcj (i:=(i:Int)) (by omega) (by rw[hz.1];omega));by_cases hp:nth z (i:Int)>0
      ·rw[Zc (decide_eq_true hp),Qh0 hfew];simp only[Za];rw[QfR u0 (by rw[hz.1];exact u1)];simp only[Za];rw[Qo1 u0 (by rw[hz.1];exact u1)];simp only[Za];have e3:imin 1 (nth z (i:Int))=1:=by unfold imin;rw[Zd (by omega)]
       show _=some (Sum.inl (_,up1 z _ (imin 1 (nth z (i:Int)))));rw[e3]
      ·rw[Zd (by simpa using hp)];have e3:imin 1 (nth z (i:Int))=0:=by unfold imin;split<;>omega
       show _=some (Sum.inl (_,up1 z _ (imin 1 (nth z (i:Int)))));rw[e3,Qnd hz u0 u1 (ZR _)];rfl
     ·have hk':(x.Xa[i].Xb[j].Xi==(1:Int))=false:=by simpa using hk
      rw[hk'];simp only[opt,Bool.false_and,ZB,if_false,Za];rfl
 ·have hy:=hl r hr;have hk:=Qii hy;unfold Qh2 at hw;split at hw
  ·obtain rfl:=Zu hw;exact hu.up hk.1 hk.2 (Qrk ..)
  ·cases hw
 ·have hy:=hl _ (Zk hk);have a0:0<=l[k].A:=hy.a0;have a1:l[k].A<x.Xa.length:=hy.a1;have b1:l[k].B<x.Xa.length:=hy.b1;rw[Zc (by simpa using hk),QI hk];simp only[Za];have e:(if (decide (l[k].B>=(0:Int)))=true then (idx u l[k].B).bind λt36=>some t36 else some (1:Int))=some (if l[k].B>=0 then nth u l[k].B else 1):=by
   by_cases hb:l[k].B>=0
   ·rw[Zc (by simpa using hb),Zc hb,QfR hb (by rw[hu.1];omega)];rfl
   ·rw[Zd (by simpa using hb),Zd hb]
  rw[e];simp only[Za];rw[QfR a0 (by rw[hu.1];omega)];simp only[Za];have h3:=Qsi (β:=(Int×List Int)⊕(List Int⊕(List Int×Bool))) hy hu rfl (some (Sum.inr (Sum.inr (([]:List Int),false)))) (λw=>some (Sum.inl (i64.wrap ((k:Int)+1),w)));rw[Qw hk (by omega)] at h3;refine Eq.trans ?_ (h3.trans ?_)
  ·unfold jn;dsimp only;rw[Qw hk (by omega)];by_cases hL:l[k].Xh=true
   ·rw[Zc hL,Zc hL]
   ·rw[Zd hL,Zd hL];exact opt3 l[k] (nth u l[k].A) (λc=>if c=true then _ else _)
  ·cases Qh2 (toC l[k]) u<;>rfl
def Qui {E F:Int->Bool} {n:Nat} {v:List Int} (h:∀k:Nat,k<n->E (k:Int)=F (k:Int)):over E n v=over F n v:=by
 rw[ZO];unfold over;simp only[Yn,ZD];constructor
 ·rintro ⟨k,hk,h1⟩;exact⟨k,hk,by rw[<-h k hk];exact h1⟩
 ·rintro ⟨k,hk,h1⟩;exact⟨k,hk,by rw[h k hk];exact h1⟩
def Qjj {x:Qb} (hs:Qb4 x) (hc:QZ x=[]) {l:List Qv} (hl:∀y∈l,VL (toC y) x.Xa.length) (hlen:l.length<=1000) {e:List Bool} {E:Int->Bool} (he:∀k:Nat,k<x.Xa.length->idx e (k:Int)=some (E (k:Int))):
  Qbs x l e=some (QhA E x.Xa.length (l.map toC) (refP (QeL x))):=by
 have hk6:=(Qan hc).kinds;have hR:=(Qh3 hc).refP;have hL:∀y∈l.map toC,VL y x.Xa.length:=λy hy=>by obtain⟨r,hr,rfl⟩:=ZE.1 hy;exact hl r hr
 unfold Qbs;rw[Qht x.Xa.length (0:Int) (by omega)];simp only[Za];rw[Qpz (E:=E) hL hR (λb=>b) (λv hv hz=>?_)]
 ·rfl
 ·rw[QwJ hs hc hl hlen ⟨hv,λz hzm=>by have:=hz z hzm;omega⟩];unfold rnd;simp only[Za]
  cases hu:rndL (l.map toC) v with
  | none=>rfl
  | some u=>
   have hvu:=QiX _ v u hL hv hu;have hul:u.length=x.Xa.length:=hvu.1.symm.trans hv;have huw:=QiY (n:=x.Xa.length) (refP (QeL x)) u (λr hr=>(hR r hr).2) hul;simp only[Yb];obtain⟨w,hw⟩:∃w,rndR (refP (QeL x)) u=w:=⟨_,rfl⟩;simp only[hw] at huw ⊢;have hwl:w.length=x.Xa.length:=huw.1.symm.trans hul;rw[Zd (show ¬((!true)=true) by decide)];rw[QpF (n:=x.Xa.length) (E:=E) (w:=w) (λk hk=>?_) (by rw[hwl,Zd (by simp)])]
   ·simp only[Za]
    cases ho:over E x.Xa.length w with
    | true=>rfl
    | false=>
     simp only[ZB,if_false];rw[Qsb v w (by omega)];simp only[Za];by_cases ew:w=v
     ·simp[ew]
     ·simp[ew,Ne.symm ew]
   ·rw[hwl,Zc (by simpa using hk),QfR (c:=w) (i:=(k:Int)) (by omega) (by omega),he k hk];simp only[Za];rw[Qw hk (by omega)];unfold opt;by_cases h1:nth w (k:Int)>65536
    ·simp[h1]
    ·by_cases h2:nth w (k:Int)>0
     ·simp[h1,h2];cases E (k:Int)<;>simp
     ·simp[h1,h2]
def Qmx {α β:Type} (l:List α) (p:α->Bool) (g:α->β) {body:Int×List β->Option ((Int×List β)⊕List β)}
  (hs:∀k (h:k<l.length) (acc:List β),acc.length<=k->body ((k:Int),acc)=some (.inl (((k+1:Nat):Int),if p l[k]=true then acc++[g l[k]] else acc))) (he:∀acc,body ((l.length:Int),acc)=some (.inr acc)):
  Qm body ((0:Int),[])=some ((l.filter p).map g):=by
 have h:=QbZ (body:=body) l.length (λn=>((n:Int),((l.take n).filter p).map g)) ((l.filter p).map g) (λk hk=>?_) ?_
 ·simpa using h
 ·rw[hs k hk _ (by rw[Zv];exact Yt (length_filter_le _ _) (by rw[Yc];omega)),Zw hk,filter_append,ZT];by_cases hp:p l[k]=true
  ·rw[Zc hp];simp[hp]
  ·rw[Zd hp];simp[hp]
 ·rw[he];simp
def QwK {n:Int} {l:List QG} (h:(cycS n l).2≠0):(cycS n l).1=[]:=by
 unfold cycS at h ⊢;split
 ·rfl
 ·next hv=>
  rw[Zd hv] at h
  cases hs:Qdt (QaX (l.map (edN (n+1).toNat))) l.length n.toNat 2 with
  | none=>rfl
  | some p=>rw[hs] at h;exact absurd rfl h
def QyB {x:Qb} {k:Int} {p:Nat->Bool} {j:Nat} (h:j<(ownI x k p).length):(ownI x k p).getD j 0=(ownI x k p)[j]:=by rw[Zf,Zb h];rfl
def QlW {x:Qb} (hc:QZ x=[]) {k:Int} (k0:0<=k) (k1:k<x.Xa.length) (p:Nat->Bool):(cycS (flen x k:Int) (ownD x k p)).1.length<=12/\∀c∈(cycS (flen x k:Int) (ownD x k p)).1,0<=c/\c<(ownI x k p).length:=by
 refine⟨Qys _ _,λc hcm=>?_⟩;have hlen:(ownD x k p).length=(ownI x k p).length:=by unfold ownD;simp
 rw[Qm9 hc k0 k1 p] at hcm
 cases h:Qdt (QaX ((ownD x k p).map (edN (flen x k+1)))) (ownD x k p).length (flen x k) 2 with
 | none=>rw[h] at hcm;cases hcm
 | some q=>rw[h] at hcm;obtain⟨js,hq,hj,_⟩:=QlT (QjD hc k0 k1 p) h;dsimp only at hcm;rw[hq] at hcm;obtain⟨j,hjm,rfl⟩:=ZE.1 hcm;have:=hj j hjm;exact⟨by omega,by omega⟩
def Qtb {x:Qb} {i:Nat} (hi:i<x.Xa.length):flen x (i:Int)=x.Xa[i].Xb.length:=by unfold flen;rw[QI hi]
def Qkc {x:Qb} {k:Int} {p:Nat->Bool}:(cycN x k p).length=(cycS (flen x k:Int) (ownD x k p)).1.length:=by unfold cycN;simp
def ints (l:List Nat):List Int:=l.map λ(i:Nat)=>(i:Int)
def Qkd {x:Qb} (hc:QZ x=[]) {i:Nat} (hi:i<x.Xa.length) {f:Int->Option Bool} {p:Nat->Bool} (hf:∀j:Nat,j<(Qao x).length->f (j:Int)=some (p j)):
  QcP (Qbp x) (i:Int) f=some (ints (cycN x (i:Int) p)):=by
 have hv:=Qan hc;have hdl:=Qfg hv;obtain⟨D,hD⟩:∃D,(Qao x).map mkD=D:=⟨_,rfl⟩;have hDl:D.length=(Qao x).length:=by rw[<-hD];simp
 unfold QcP;rw[show (Qbp x).Xt=D from hD,show ((Qbp x).x)=x from rfl];have hget:∀j (h:j<D.length),D[j]=mkD ((Qao x)[j]'(by omega)):=λj h=>by subst hD;simp
 have hlen:∀n,(((range n).filter λj=>dK x j==(i:Int)&&p j)).length<=n:=λn=>by
  have:=length_filter_le (λj=>dK x j==(i:Int)&&p j) (range n)
  rwa [ZL] at this
 refine Qb8 (ρ:=List Int×List QG) D.length (λn=>((n:Int),ints ((range n).filter λj=>dK x j==(i:Int)&&p j),((range n).filter λj=>dK x j==(i:Int)&&p j).map (dD x))) (ints (ownI x (i:Int) p),ownD x (i:Int) p) rfl (λn hn=>?_) ?_ ?_
 ·have hn':n<(Qao x).length:=by omega
  dsimp only;rw[Zc (by simpa using hn),QI hn,hget n hn];simp only[Za];have hk:dK x n=(mkD (Qao x)[n]).kind:=by unfold dK;rw[Qoi hn'];rfl
  have hd:dD x n=(mkD (Qao x)[n]).Xu:=by unfold dD;rw[Qoi hn'];rfl
  rw[<-hk,<-hd,Qw hn (by omega),ZX,filter_append];have h1:=hlen n
  cases hkk:(dK x n==(i:Int)) with
  | false=>simp[opt,hkk]
  | true=>
   simp only[opt,beq_self_eq_true,if_true];rw[hf n hn'];simp only[Za,Bool.true_and]
   cases hp:p n with
   | false=>simp[hkk,hp]
   | true=>rw[Zc rfl,QaT (by simp;omega)];simp only[Za];rw[QaT (by unfold ints;simp;omega)];simp[hkk,hp,ints]
 ·dsimp only;rw[Zd (by simp)];unfold ownI ownD ownI;rw[hDl]
 ·simp only[Za];rw[QI hi];simp only[Za];rw[cyc_is];simp only[Za];rw[<-Qtb hi];have k1:(i:Int)<x.Xa.length:=by omega
  obtain⟨l12,hjs⟩:=QlW hc (by omega) k1 p;by_cases he:(cycS (flen x (i:Int):Int) (ownD x (i:Int) p)).2=0
  ·rw[Zd (by simpa using he)];have hne:cycN x (i:Int) p≠[]:=λh=>((QoY hc (by omega) k1 p).2.1 h) he;rw[Qq3 (cycS (flen x (i:Int):Int) (ownD x (i:Int) p)).1 (λc=>(((ownI x (i:Int) p).getD c.toNat 0:Nat):Int)) (λk hk acc ha=>?_) (λacc=>by rw[Zd (by simp)])]
   ·simp only[Za];have e:((cycS (flen x (i:Int):Int) (ownD x (i:Int) p)).1.map λc=>(((ownI x (i:Int) p).getD c.toNat 0:Nat):Int))=ints (cycN x (i:Int) p):=by
     unfold ints cycN;rw[Yv];rfl
    rw[e]
    cases hcy:cycN x (i:Int) p with
    | nil=>exact absurd hcy hne
    | cons a l=>rfl
   ·have hcm:=hjs _ (Zk hk);dsimp only;rw[Zc (by simpa using hk),QI hk];simp only[Za];obtain⟨j,hj⟩:=Zy hcm.1;have hjl:j<(ownI x (i:Int) p).length:=by omega
    rw[hj,QI (xs:=ints (ownI x (i:Int) p)) (by unfold ints;simpa using hjl)];simp only[Za,Zq];rw[QaT (by simp;omega),Qw hk (by omega),QyB hjl];simp[ints]
  ·rw[Zc (by simpa using he)];have:cycN x (i:Int) p=[]:=(QoY hc (by omega) k1 p).2.2 he;rw[this];rfl
def QB6 {x:Qb} {k:Int} {p:Nat->Bool}:((sel (Qao x) p d0T).filter λt=>t.1==k).map (λt=>t.2.2)=ownD x k p:=by unfold sel ownD ownI;rw[filter_map,Yv,filter_filter];rfl
def QpG {x:Qb} {i:Nat} (hi:i<x.Xa.length) {p:Nat->Bool} (hl:(Qao x).length<=1000):
  Qd8 x (i:Int) ((sel (Qao x) p d0T).map mkN)=some ((cycN x (i:Int) p).length:Int):=by
 have hsl:(sel (Qao x) p d0T).length<=1000:=by unfold sel;rw[Zv];have:=length_filter_le p (range (Qao x).length);rw[ZL] at this;omega
 unfold Qd8;rw[Qmx ((sel (Qao x) p d0T).map mkN) (λt=>t.Xi==(i:Int)) (λt=>t.Xu) (λk hk acc ha=>?_) (λacc=>by rw[Zd (by simp)])]
 ·have e:((((sel (Qao x) p d0T).map mkN).filter λt=>t.Xi==(i:Int)).map λt=>t.Xu)=ownD x (i:Int) p:=by
   rw[<-QB6,filter_map,Yv];rfl
  simp only[Za];rw[e,QI hi];simp only[Za];rw[QB0];simp only[Za];rw[<-Qtb hi,Qkc];by_cases he:(cycS (flen x (i:Int):Int) (ownD x (i:Int) p)).2=0
  ·rw[Zd (by simpa using he)]
  ·rw[Zc (by simpa using he),QwK he];rfl
 ·rw[Zv] at hk;dsimp only;rw[Zc (by simpa using hk),QI (by simpa using hk)];simp only[Za];rw[Qw hk (by omega)]
  cases hp:(((sel (Qao x) p d0T).map mkN)[k]'(by simpa using hk)).Xi==(i:Int) with
  | false=>simp
  | true=>rw[Zc rfl,QaT (by simp;omega),Zc rfl];rfl

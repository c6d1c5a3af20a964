/- CountsLimits. No condition. -/
import Derived.Test.YtmhcoofnnmiejaaGreatDoorTyU
import Derived.Test.YtmhcoofnnmiejaaGreatDoorEvalA
set_option linter.all false
open List Go.IntKind
namespace Go.Proofs.YtmhcoofnnmiejaaGreatDoor
open Go.Sim
variable {α:Type} {i:Nat} {w:List Int} {P:Nat->List Int->Prop} {D:List Bool} {r:List Int}
def Qtr {a b:Type} (n:Nat) (g:Nat->List a) (h:Nat->List b) (B:Nat) (j:∀k,k<n->(g k).length<=B/\(h k).length<=B) (a0:List a) (d:List b) {body:Int×List a×List b->Option ((Int×List a×List b)⊕(List a×List b))}
  (l:∀k,k<n->∀(p:List a) (q:List b),p.length<=a0.length+k * B->q.length<=d.length+k * B->body ((k:Int),p,q)=some (.inl (((k+1:Nat):Int),p++g k,q++ h k))) (s:∀p q,body ((n:Int),p,q)=some (.inr (p,q))):
  Qr body ((0:Int),a0,d)=some (a0++(range n).flatMap g,d++(range n).flatMap h):=by
 have hlen:∀m,m<=n->((range m).flatMap g).length<=m * B/\((range m).flatMap h).length<=m * B:=λm hm=>⟨QcW m g B λk e=>(j k (by omega)).1,QcW m h B λk e=>(j k (by omega)).2⟩;have key:=Qio (body:=body) n (λm=>((m:Int),a0++(range m).flatMap g,d++(range m).flatMap h)) (a0++(range n).flatMap g,d++(range n).flatMap h) (λk e=>?_) ?_
 ·simpa using key
 ·have:=hlen k (by omega);rw[l k e _ _ (by rw[Zf];omega) (by rw[Zf];omega),Yp,ZK,ZK];simp
 ·rw[s]
def leastT:Str:=[32,108,101,97,115,116]
def mostT:Str:=[32,109,111,115,116]
section
variable {τ:Type} (mk:Int->Int->Int->Bool->τ)
def Qkr (i j lo hi:Int):List τ:=[mk i j lo true,mk i j hi false]
def fldL (x:Qc) (i:Nat) (q:QA) (j:Nat):List τ:=match q.Xb[j]? with | some f=>if (f.Xi==1)=true then Qkr mk (i:Int) (Q3 x f.Of) f.Lo f.Hi else [] | none=>[]
def kndL (x:Qc) (i:Nat):List τ:=match x.Xa[i]? with | some q=>Qkr mk (i:Int) (-1) q.Lo q.Hi++(range q.Xb.length).flatMap (fldL mk x i q) | none=>[]
def limL (x:Qc):List τ:=(range x.Xa.length).flatMap (kndL mk x)
end
def Qor (s:Str):List Str:=[s++leastT,s++mostT]
def fldN (q:QA) (j:Nat):List Str:=match q.Xb[j]? with | some f=>if (f.Xi==1)=true then Qor ((q.Xj++[46])++f.Xj) else [] | none=>[]
def kndN (x:Qc) (i:Nat):List Str:=match x.Xa[i]? with | some q=>Qor q.Xj++(range q.Xb.length).flatMap (fldN q) | none=>[]
def namL (x:Qc):List Str:=(range x.Xa.length).flatMap (kndN x)
def QqQ {τ:Type} (mk:Int->Int->Int->Bool->τ) (x:Qc) (i:Nat) (q:QA) (j:Nat):(fldL mk x i q j).length<=2/\(fldN q j).length<=2:=by
 unfold fldL fldN
 cases q.Xb[j]? with
 | none=>simp
 | some f=>dsimp only;constructor<;>split<;>simp[Qkr,Qor]
def QqR {τ:Type} (mk:Int->Int->Int->Bool->τ) {x:Qc} (a:QkF x) (i:Nat):(kndL mk x i).length<=22/\(kndN x i).length<=22:=by
 unfold kndL kndN
 cases b:x.Xa[i]? with
 | none=>simp
 | some q=>have hf:=(Qip (a.kind q (Zl b))).2.1;have d:=QcW q.Xb.length (fldL mk x i q) 2 λj _=>(QqQ mk x i q j).1;have e:=QcW q.Xb.length (fldN q) 2 λj _=>(QqQ mk x i q j).2;simp only[Zf,Qkr,Qor,Zk,Zm];omega
def QBE {x:Qc} {p:QI} (h:p∈Qbb x):p.Code≠0:=by
 have hp:∀{k j r e:Int},p∈prob k j r e->p.Code≠0:=λ{k j r e} h=>by
  unfold prob at h;split at h
  ·cases h
  ·rw[Zg.1 h];assumption
 unfold Qbb at h;split at h
 ·simp only[ZB] at h;rcases h with (h | h) | h
  ·obtain⟨i,_,h⟩:=Yb.1 h;unfold Qhk at h;split at h
   ·exact hp h
   ·cases h
  ·obtain⟨i,_,h⟩:=Yb.1 h;unfold QgB at h;split at h
   ·rcases ZB.1 h with h | h
    ·exact hp h
    ·obtain⟨j,_,h⟩:=Yb.1 h;unfold QhM at h;split at h
     ·exact hp h
     ·cases h
   ·cases h
  ·obtain⟨i,_,h⟩:=Yb.1 h;unfold Qko at h;split at h
   ·exact hp h
   ·cases h
 ·rw[Zg.1 h];assumption
def QdZ {x:Qc} (h:Qbb x=[]):QkF x:=by
 unfold Qbb at h;by_cases a:Qgc x=0
 ·unfold Qgc at a;by_cases b:Qgb x=true
  ·exact QjZ b
  ·rw[Zb b] at a;cases a
 ·rw[Zb a] at h;cases h
def Qzh {q:QA} (h:QeH q=true):q.Xj.length<=12:=by simp only[QeH,Zi] at h;exact Qb7 h.1.1.1
def QwF {f:Qe} (h:QaN f=true):f.Xj.length<=12:=by simp only[QaN,Zi] at h;exact Qb7 h.1.1
def Qmb {n:Nat} (h:n<=1000000):cat n=some ():=by unfold cat;rw[Zc (by omega)]
noncomputable def limR {τ:Type} (mk:Int->Int->Int->Bool->τ) (x:Qc):List τ×List Str×Int:=match Qbb x with | []=>(limL mk x,namL x,0) | p::_=>([],[],p.Code)
def QwG {x:Qc} (h:Qqc x):QgQ x=some (limR QK.mk x):=by
 unfold QgQ limR;rw[Qzg h];simp only[Za]
 cases s:Qbb x with
 | cons p l=>rw[Zc (by simp)];rfl
 | nil=>
  have b:=QdZ s;have C:=b.kinds;rw[Zb (by simp)];refine (Ya (Option.bind · _) (Qtr x.Xa.length (kndN x) (kndL QK.mk x) 22 (λi _=>⟨(QqR QK.mk b i).2,(QqR QK.mk b i).1⟩) [] [] (λi hi p q hp t=>?_) (λp q=>by rw[Zb (by simp)]))).trans ?_
  ·simp only[Zm,Nat.zero_add] at hp t;have v:i * 22<=132:=by omega
   rw[Zc (by simpa using hi),QY hi];have d:=b.kind _ (Zo hi);have m:=(Qip d).2.1;have y:=Qzh d;simp only[Za];rw[QdX (by simp;omega),Qmb (by simp;omega),Qmb (by simp;omega),QdX (by simp;omega)];simp only[Za];rw[Qtr x.Xa[i].Xb.length (fldL QK.mk x i x.Xa[i]) (fldN x.Xa[i]) 2 (λj _=>QqQ _ _ _ _ _) _ _ (λj a z A e g=>?_) (λz A=>by rw[Zb (by simp)])]
   ·simp only[Za];have e1:kndL QK.mk x i=Qkr QK.mk (i:Int) (-1) x.Xa[i].Lo x.Xa[i].Hi++(range x.Xa[i].Xb.length).flatMap (fldL QK.mk x i x.Xa[i]):=by unfold kndL;rw[Zd hi]
    have e2:kndN x i=Qor x.Xa[i].Xj++(range x.Xa[i].Xb.length).flatMap (fldN x.Xa[i]):=by unfold kndN;rw[Zd hi]
    rw[e1,e2,QD hi (by omega),ZE,ZE];rfl
   ·simp only[Zf,Zk,Zm] at e g;have B:=QwF ((Qip d).2.2 _ (Zo a));rw[Zc (by simpa using a),QY a];simp only[Za];have e1:fldL QK.mk x i x.Xa[i] j=if (x.Xa[i].Xb[j].Xi==1)=true then Qkr QK.mk (i:Int) (Q3 x x.Xa[i].Xb[j].Of) x.Xa[i].Xb[j].Lo x.Xa[i].Xb[j].Hi else []:=by unfold fldL;rw[Zd a]
    have e2:fldN x.Xa[i] j=if (x.Xa[i].Xb[j].Xi==1)=true then Qor ((x.Xa[i].Xj++[46])++x.Xa[i].Xb[j].Xj) else []:=by unfold fldN;rw[Zd a]
    rw[e1,e2,QD a (by omega)]
    cases (x.Xa[i].Xb[j].Xi==1) with
    | false=>simp
    | true=>rw[Zc rfl,Zc rfl,Zc rfl,Qeq (by omega)];simp only[Za];rw[QdX (by simp;omega),Qmb (by simp;omega),Qmb (by simp;omega),Qmb (by simp;omega),Qmb (by simp;omega),QdX (by simp;omega)];rfl
  ·rfl
def kd (x:Qc) (k:Nat):QA:=x.Xa.getD k default
def nf (x:Qc) (k:Nat):Nat:=(kd x k).Xb.length
def fd (x:Qc) (k f:Nat):Qe:=(kd x k).Xb.getD f QcV
section
variable {x:Qc} {k f:Nat}
def Qbl (a:k<x.Xa.length):idx x.Xa (k:Int)=some (kd x k):=Qdb a
def Qgf (hf:f<nf x k):idx (kd x k).Xb (f:Int)=some (fd x k f):=Qdb hf
def QjA (a:k<x.Xa.length) (hf:f<nf x k):field? x (k:Int) (f:Int)=some (fd x k f):=Qgz (by omega) (by omega) (Qbl a) (Qgf hf)
def Qo9 {b:Int} {g:Qe} (h:field? x (k:Int) b=some g):∃j:Nat,b=j/\j<nf x k/\g=fd x k j:=by
  obtain⟨q,m,l,a,d,_,p,s⟩:=QbT h;obtain⟨j,rfl⟩:=ZG l;rw[Qbl (by omega)] at a;cases a;have e:j<nf x k:=by unfold nf;omega
  refine⟨j,rfl,e,?_⟩;rw[Qgf e] at d;exact (Zn d).symm
def Qts (hf:f<nf x k):fd x k f∈(kd x k).Xb:=Qju hf
def Qmc (a:k<x.Xa.length):kd x k∈x.Xa:=Qju a
def Qtt (a:k<x.Xa.length):x.Xa[k]?=some (kd x k):=by
  have:=Qbl a
  rwa [Qhd] at this
def Qqi (hf:f<nf x k):(kd x k).Xb[f]?=some (fd x k f):=by
  have:=Qgf hf
  rwa [Qhd] at this
def Qun {s:List α} {p:α->Bool} (h:0<=Qa2 s p):∃g:Nat,Qa2 s p=g/\∃h:g<s.length,p s[g]=true:=by
  unfold Qa2 at h ⊢
  cases e:s.findIdx? p with
  | none=>rw[e] at h;exact absurd h (by decide)
  | some g=>obtain⟨a,b,_⟩:=ZY.1 e;exact⟨g,rfl,a,b⟩
def Quo {s:List α} {p:α->Bool} {g:Nat} (b:g<s.length) (hp:p s[g]=true):∃a:Nat,Qa2 s p=a/\a<=g:=by
  unfold Qa2
  cases e:s.findIdx? p with
  | none=>have:=findIdx?_eq_none_iff.1 e _ (Zo b);rw[hp] at this;cases this
  | some a=>
    obtain⟨j,l,d⟩:=ZY.1 e;refine⟨a,rfl,?_⟩;rcases Nat.lt_or_ge g a with h | h
    · exact absurd hp (d g h)
    · exact h
def Qqj {n:Str} (h:0<=Qal (kd x k) n):∃g:Nat,Qal (kd x k) n=g/\g<nf x k/\(fd x k g).Xj=n:=by obtain⟨g,e,a,hp⟩:=Qun h;refine⟨g,e,a,?_⟩;have:=Qqi (x:=x) (k:=k) (f:=g) a;rw[Zd a] at this;rw[<-Zn this];simpa using hp
def QoO (a:Qbb x=[]):Qgd x=[]/\Qqb x=[]/\Qgc x=0:=by
  unfold Qbb at a;split at a
  · simp only[append_eq_nil_iff] at a;exact⟨a.1.2,a.2,by assumption⟩
  · cases a
def Qqk (l:Qbb x=[]) (g:k<x.Xa.length):Qjb x (k:Int) (kd x k)=0/\∀j,j<nf x k->Qk6 x (kd x k) (k:Int) (j:Int) (fd x k j)=0:=by have b:=(QoO l).1;unfold Qgd at b;rw[flatMap_eq_nil_iff] at b;have a:=b k (Ym.2 g);unfold QgB at a;rw[Qtt g] at a;dsimp only at a;rw[append_eq_nil_iff] at a;refine⟨QmM a.1,λj h=>?_⟩;have d:=a.2;unfold QkG at d;rw[flatMap_eq_nil_iff] at d;have e:=d j (Ym.2 h);unfold QhM at e;rw[Qqi h] at e;exact QmM e
def Qjf (b:Qbb x=[]) (a:k<x.Xa.length) (hf:f<nf x k):QfQ x (kd x k) (k:Int) (f:Int) (fd x k f)=0:=clean b (Qbl a) (QjA a hf)
def Qvl (b:Qbb x=[]) (d:k<x.Xa.length) (hf:f<nf x k):Qal (kd x k) (fd x k f).Xj=f:=by
  have h:=(Qqk b d).2 f hf;unfold Qk6 at h;split at h
  · cases h
  · rename_i j;have a:=Qqi (x:=x) (k:=k) (f:=f) hf;rw[Zd hf] at a;obtain⟨g,e,hl⟩:=Quo (s:=(kd x k).Xb) (p:=λy=>y.Xj==(fd x k f).Xj) (g:=f) hf (by rw[Zn a];simp);have e':Qal (kd x k) (fd x k f).Xj=g:=e;omega
def Qtu (d:Qbb x=[]) (g:k<x.Xa.length):0<nf x k/\(fd x k 0).Xi=0:=by
  have h:=(Qqk d g).1;unfold Qjb at h;obtain⟨_,h⟩:=Qce h (by decide);obtain⟨h,_⟩:=Qce h (by decide);rw[Bool.or_eq_false_iff] at h;obtain⟨a,b⟩:=h;have j:nf x k≠0:=by intro e;unfold nf at e;rw[e] at a;cases a
  refine⟨by omega,?_⟩;have e:(kd x k).Xb.headD QcV=fd x k 0:=by unfold fd;cases (kd x k).Xb<;>rfl
  rw[e] at b;simpa using b
def Qtv (l:Qbb x=[]) (d:k<x.Xa.length) (hf:f<nf x k) (m:(fd x k f).Xi=4) (p:(fd x k f).Of≠[]):∃g:Nat,Qal (kd x k) (fd x k f).Of=g/\g<f/\(fd x k g).Xi=4/\(fd x k g).Xj=(fd x k f).Of:=by
  have h:=Qjf l d hf;unfold QfQ at h;rw[Zb (by omega),Zb (by omega),Zc m] at h;obtain⟨h,_⟩:=Qce h (by decide);have a:((fd x k f).Of !=[])=true:=by simpa using p
  rw[a,Bool.true_and,Bool.or_eq_false_iff,Bool.or_eq_false_iff] at h;obtain⟨⟨q,j⟩,b⟩:=h;obtain⟨g,e,s,t⟩:=Qqj (x:=x) (k:=k) (n:=(fd x k f).Of) (by simpa using q);rw[e] at j b;rw[QjA d s] at b;exact⟨g,e,by simpa using j,by simpa using b,t⟩
def Qql (a:Qbb x=[]) (b:k<x.Xa.length) (hf:f<nf x k) (h:(fd x k f).Xi=1\/(fd x k f).Xi=7\/(fd x k f).Xi=8):∃u:Nat,upIx x (k:Int) (f:Int)=u/\u<k:=by have d:=QBx (Qjf a b hf) h;have e:=(Qon x (k:Int) (f:Int) (by omega)).1;exact⟨(upIx x (k:Int) (f:Int)).toNat,by omega,by omega⟩
def Qqm (p:Qbb x=[]) (b:k<x.Xa.length) (hf:f<nf x k) (h:(fd x k f).Xi=7\/(fd x k f).Xi=8):∃g u:Nat,Qal (kd x k) (fd x k f).Up=g/\g<nf x k/\(fd x k g).Xi=1/\upIx x (k:Int) (g:Int)=u/\upIx x (k:Int) (f:Int)=u/\u<k:=by
  obtain⟨u,hu,d⟩:=Qql p b hf (.inr h);have a:=hu;unfold upIx at a;rw[QjA b hf,Qbl b] at a;dsimp only at a;rw[Zc h] at a;split at a
  · split at a
    · rename_i g q;split at a
      · rename_i l;obtain⟨j,e,m,rfl⟩:=Qo9 q;refine⟨j,u,e,m,l,?_,hu,d⟩;unfold upIx;rw[QjA b m];dsimp only;rw[Zb (by omega),Zc l];exact a
      · omega
    · omega
  · omega
def Qvm (b:Qbb x=[]) (d:k<x.Xa.length) (hf:f<nf x k) (l:(fd x k f).Xi=8) {u:Nat} (hu:upIx x (k:Int) (f:Int)=u) (m:u<k):∃g:Nat,Qal (kd x u) (fd x k f).Of=g/\g<nf x u:=by
  have h:=Qjf b d hf;unfold QfQ at h;rw[Zb (by omega),Zb (by omega),Zb (by omega),Zb (by omega),Zb (by omega),Zb (by omega),Zc l] at h;obtain⟨_,h⟩:=Qce h (by decide);obtain⟨h,_⟩:=Qce h (by decide);rw[Bool.or_eq_false_iff] at h;have a:=h.1;unfold topS at a;rw[hu,Zb (by omega),Qbl (by omega)] at a;dsimp only at a
  cases e:field? x (u:Int) (Qal (kd x u) (fd x k f).Of) with
  | none=>rw[e] at a;cases a
  | some g=>obtain⟨j,e1,p,_⟩:=Qo9 e;exact⟨j,e1,p⟩
def Qzi (l:Qbb x=[]) (h:k<x.Xa.length) (hf:f<nf x k) (m:(fd x k f).Xi=6):∃o a:Nat,QkD x (k:Int) (f:Int)=((o:Int),(a:Int))/\k<o/\o<x.Xa.length/\a<nf x o/\(fd x o a).Xi=7/\upIx x (o:Int) (a:Int)=k:=by
  obtain⟨o,a,e,q,p⟩:=Qul (QjA h hf) (Qjf l h hf) m;have e':=e;unfold QkD at e';rw[QjA h hf] at e';dsimp only at e';split at e'
  · rename_i b hb;simp only[Yr] at e';obtain⟨e1,rfl⟩:=e';unfold QfP at e1 hb;split at e1
    · omega
    · rename_i d;rw[Zb d] at hb;dsimp only at e1 hb;have hl:=(Qgj x (fd x k f).Of).2;rw[e1] at hb hl;obtain⟨o',rfl⟩:=ZG (show 0<=o by omega);unfold shl at hb;rw[Qbl (by omega)] at hb;dsimp only at hb;have hm:b∈((range (kd x o').Xb.length).filter (Qf8 x (o':Int) (k:Int) (fd x k f).Xj (kd x o').Xb)).map Int.ofNat:=by rw[hb];exact mem_singleton_self _
      obtain⟨n,j,rfl⟩:=ZP.1 hm;obtain⟨j,hp⟩:=Yi.1 j;have g:n<nf x o':=Ym.1 j;unfold Qf8 at hp;rw[Qqi g] at hp;simp only[Zi,Yf] at hp;exact⟨o',n,e,by omega,by omega,g,hp.1.1,hp.2⟩
  · simp only[Yr] at e';omega
def QFm (a:Qbb x=[]) (b:k<x.Xa.length) (hf:f<nf x k) (d:(fd x k f).Xi=5):(x.Xd.any λl=>l.Xj==(fd x k f).Of)=true:=by have h:=Qjf a b hf;unfold QfQ at h;rw[Zb (by omega),Zb (by omega),Zb (by omega),Zc d] at h;obtain⟨h,_⟩:=Qce h (by decide);simpa using h
def Qvn (A:Qbb x=[]) {r:QL} (B:r∈x.Xc):∃k:Nat,Q3 x r.Xi=k/\k<x.Xa.length/\r.A≠r.B/\∀n,n=r.A\/n=r.B->n≠[]->∃g:Nat,Qal (kd x k) n=g/\g<nf x k/\((fd x k g).Xi=2\/(fd x k g).Xi=4)/\(fd x k g).Xj=n:=by
  have p:=(QoO A).2.1;unfold Qqb at p;rw[flatMap_eq_nil_iff] at p;obtain⟨i,hi,rfl⟩:=mem_iff_getElem.1 B;have q:=p i (Ym.2 hi);unfold Qko at q;rw[Zd hi] at q;have d:=QmM q;generalize x.Xc[i]=r at d ⊢;unfold Qoo at d;obtain⟨_,d⟩:=Qce d (by decide);obtain⟨hm,d⟩:=Qce d (by decide);obtain⟨s,d⟩:=Qce d (by decide);obtain⟨t,_⟩:=Qce d (by decide);rw[Bool.or_eq_false_iff,Bool.or_eq_false_iff] at hm;rw[Bool.or_eq_false_iff] at s;have l:0<=Q3 x r.Xi:=by simpa using hm.1.1
  have C:=(Qgj x r.Xi).2;obtain⟨k,E⟩:=ZG l;have m:Q3 x r.Xi=(k:Int):=E;refine⟨k,m,by omega,by simpa using t,λn y hne=>?_⟩;have b:Qdm x (Q3 x r.Xi) n=false:=y.elim (λe=>e▸hm.1.2) (λe=>e▸hm.2);have a:Qc3 x (Q3 x r.Xi) n=false:=y.elim (λe=>e▸s.1) (λe=>e▸s.2);have c:((n==[])||decide (Q3 x r.Xi<0))=false:=by rw[Bool.or_eq_false_iff];exact⟨by simpa using hne,by simpa using l⟩
  unfold Qdm at b;unfold Qc3 at a;rw[c,Bool.not_false,Bool.true_and] at b a;rw[m] at b a;unfold Ql9 at b a;rw[Qbl (by omega)] at b a;dsimp only at b a
  cases e:field? x (k:Int) (Qal (kd x k) n) with
  | none=>rw[e] at b;cases b
  | some g=>
    rw[e] at a;obtain⟨j,e1,F,rfl⟩:=Qo9 e;obtain⟨z,e2,_,v⟩:=Qqj (x:=x) (k:=k) (n:=n) (by omega);have:z=j:=by omega
    subst this;refine⟨z,e1,F,?_,v⟩;dsimp only at a;rw[Bool.and_eq_false_iff] at a;rcases a with h | h
    · exact .inl (by simpa using h)
    · exact .inr (by simpa using h)
end
structure Tiny (x:Qc):Prop where
 kinds:x.Xa.length<=3
 words:∀k∈x.Xa,∀f∈k.Xb,f.Words.length<=3
 lives:x.Xd.length<=1
 life:∀l∈x.Xd,l.Xe.length<=4/\l.Xg.length<=5
 rules:x.Xc.length<=2
def VF (f:Qe):Prop:=QaN f=true/\f.Words.length<=3/\(-1000<=f.Lo/\f.Lo<=1000)/\(-1000<=f.Hi/\f.Hi<=1000)
def KV (n:Nat) (k:QA):Prop:=k.Xb.length<=n/\(∀f∈k.Xb,VF f)/\QX k.Xj=true/\(0<=k.Lo/\k.Lo<=k.Hi/\k.Hi<=60)
def KV.Xo {a b:Nat} {k:QA} (h:KV a k) (d:a<=b):KV b k:=⟨Yo h.1 d,h.2⟩
def QkH {lo hi a b:Int} (h:a<=lo/\lo<=hi/\hi<=b):QeG lo hi a b=true:=by unfold QeG;simp only[Zi,Zs];omega
def Qjg {n a b:Int} (h:a<=n/\n<=b):inW n a b=true:=by unfold inW;simp only[Zi,Zs];omega
section
variable {n o u:Str} {lo hi:Int}
def vf_key (d:QX n=true) (h:-1000<=lo/\lo<=1000):VF ⟨n,[],[],0,lo,0,[],[]⟩:=by refine⟨?_,by simp,h,by simp⟩;have:=Qjg (n:=lo) (a:=-1048576) (b:=1048576) (by omega);simp[QaN,QdB,Qdl,QdC,d,this]
def Qtw (d:QX n=true) (e:QX o=true) (h:0<=lo/\lo<=hi/\hi<=1000):VF ⟨n,o,[],1,lo,hi,[],[]⟩:=by refine⟨?_,by simp,by dsimp only;omega,by dsimp only;omega⟩;have:=QkH (lo:=lo) (hi:=hi) (a:=0) (b:=65536) (by omega);simp[QaN,QdB,Qdl,QdC,d,e,this]
def Qtx (d:QX n=true) (h:-1000<=lo/\lo<=hi/\hi<=1000):VF ⟨n,[],[],2,lo,hi,[],[]⟩:=by refine⟨?_,by simp,by dsimp only;omega,by dsimp only;omega⟩;have:=QkH (lo:=lo) (hi:=hi) (a:=-1048576) (b:=1048576) (by omega);simp[QaN,QdB,Qdl,QdC,d,this]
def QFn {w:List Str} {g:List Int} (a:QX n=true) (h:Qi9 w g=true) (b:w.length<=3):VF ⟨n,[],[],3,0,0,w,g⟩:=by refine⟨?_,b,by simp,by simp⟩;simp[QaN,QdB,Qdl,QdC,a,h]
def Qzj (d:QX n=true) (e:((o==[])||QX o)=true) (h:-1000<=lo/\lo<=hi/\hi<=1000):VF ⟨n,o,[],4,lo,hi,[],[]⟩:=by refine⟨?_,by simp,by dsimp only;omega,by dsimp only;omega⟩;have:=QkH (lo:=lo) (hi:=hi) (a:=-1048576) (b:=1048576) (by omega);simp[QaN,QdB,Qdl,QdC,d,this];simpa using e
def QFo (d:QX n=true) (e:QX o=true) (h:0<=lo/\lo<=hi/\hi<=32):VF ⟨n,o,[],5,lo,hi,[],[]⟩:=by refine⟨?_,by simp,by dsimp only;omega,by dsimp only;omega⟩;have:=QkH (lo:=lo) (hi:=hi) (a:=0) (b:=32) (by omega);simp[QaN,QdB,Qdl,QdC,d,e,this]
def vf_sum (a:QX n=true) (b:QX o=true):VF ⟨n,o,[],6,0,0,[],[]⟩:=by refine⟨?_,by simp,by simp,by simp⟩;simp[QaN,QdB,Qdl,QdC,a,b]
def QBF (d:QX n=true) (e:QX o=true) (hu:QX u=true) (h:0<=lo/\lo<=hi/\hi<=1000):VF ⟨n,o,u,7,lo,hi,[],[]⟩:=by refine⟨?_,by simp,by dsimp only;omega,by dsimp only;omega⟩;have:=QkH (lo:=lo) (hi:=hi) (a:=0) (b:=1048576) (by omega);simp[QaN,QdB,Qdl,QdC,d,e,hu,this]
def QFp (a:QX n=true) (b:QX o=true) (hu:QX u=true):VF ⟨n,o,u,8,0,0,[],[]⟩:=by refine⟨?_,by simp,by simp,by simp⟩;simp[QaN,QdB,Qdl,QdC,a,b,hu]
end
def VF.name {f:Qe} (h:VF f):QX f.Xj=true:=by have:=h.1;unfold QaN at this;simp only[Zi] at this;exact this.1.1
def Qvo {m:QR} (hm:MOk m):Ok (Qdf m) (λr=>r.1.length<=2/\(∀f∈r.1,VF f)/\MOk r.2):=by
 unfold Qdf;refine Ok.take hm (by decide) λr m1 _ _ y=>?_;refine Ok.ite (λ_=>?_) (λ_=>?_)
 ·refine Ok.take y (by decide) λe M a2 O j=>Ok.take j (by decide) λz N a3 Q A=>Ok.mk ⟨by simp,?_,A⟩;dsimp only;rw[w64 (n:=e - 5) (by omega) (by omega),w64 (n:=e - 5+z) (by omega) (by omega)];intro f hf;rw[Zg] at hf;subst hf;exact Qtx (by decide) (by omega)
 refine Ok.ite (λ_=>?_) (λ_=>?_)
 ·refine Ok.take y (by decide) λe M a0 a1 j=>?_;have B:i64.wrap (1+e)=1+e:=w64 (by omega) (by omega);refine Ok.sub (by decide) (by dsimp only;rw[B];omega) (by dsimp only;rw[B];simp;omega) λw Z R=>?_;dsimp only at Z;rw[B] at Z;have a6:1<=w.length/\w.length<=3:=by omega
  have S:w.all QX=true:=by rw[ZD];intro s E;have:=R s E;simp only[Zp,ZN,ZX] at this;rcases this with rfl | rfl | rfl<;>decide
  refine Ok.bind (P:=λr=>(r.1.length=w.length/\∀g∈r.1,0<=g/\g<=10)/\MOk r.2) (Ok.loop (λk s=>0<=s.1/\s.1+k=w.length/\s.2.1.length=s.1/\(∀g∈s.2.1,0<=g/\g<=10)/\MOk s.2.2) w.length ⟨Zx _,by simp,by simp,by simp,j⟩ λk s E=>?_) (λp hp=>?_)
  ·obtain⟨i,ws,N⟩:=s;obtain⟨e1,e2,e3,T,U⟩:=E;dsimp only at e1 e2 e3 U T;refine Ok.ite (λh=>?_) (λh=>?_)
   ·have h':i<w.length:=Zt h;refine Ok.take U (by decide) λF V a4 b4 C=>Ok.rm (by simp;omega) (Ok.mk ?_);dsimp only;rw[w64 (by omega) (by omega)];refine⟨k - 1,by omega,by omega,by omega,by simp;omega,λg d=>?_,C⟩;rcases ZB.1 d with d | d
    ·exact T g d
    ·rw[Zg] at d;omega
   ·have h':¬i<w.length:=ZA h;exact Ok.mk ⟨⟨by dsimp only;omega,T⟩,U⟩
  ·obtain⟨⟨p1,p2⟩,p3⟩:=hp;refine Ok.take p3 (by omega) λF V X a7 C=>Ok.take C (by decide) λq m5 a5 b5 H=>?_;refine Ok.setAt X (by dsimp only;omega) (Ok.mk ⟨by simp,?_,H⟩);dsimp only;rw[w64 (n:=1+q) (by omega) (by omega)];intro f hf;rw[Zg] at hf;subst hf;have t:∀g∈p.1.set F.toNat (1+q),0<=g/\g<=10:=λg d=>by
    rcases mem_or_eq_of_mem_set d with d | d
    ·exact p2 g d
    ·omega
   have I:(1+q)∈p.1.set F.toNat (1+q):=mem_set (by omega) _;have K:∀l:List Int,(∀g∈l,0<=g/\g<=10)->∀v∈l,v<=l.sum/\0<=l.sum:=λl=>by
    induction l with
    | nil=>intro _ v L;cases L
    | cons a l ih=>
     intro hl v L;have ha:=hl a Zq;have E:0<=l.sum:=by
      have:∀l:List Int,(∀g∈l,0<=g/\g<=10)->0<=l.sum:=λl=>by
       induction l with
       | nil=>intro _;simp
       | cons b l Y=>intro h;have y:=h b Zq;have j:=Y λg d=>h g (Zz _ d);simp only[sum_cons];omega
      exact this l λg d=>hl g (Zz _ d)
     simp only[sum_cons];rcases Zp.1 L with rfl | L
     ·omega
     ·have:=(ih (λg d=>hl g (Zz _ d)) v L).1;omega
   refine QFn (by decide) ?_ (by omega);unfold Qi9;simp only[Zi,ZD,Yf,Zs];refine⟨λg d=>Qjg (by have:=t g d;omega),⟨⟨Qjg (by omega),by rw[ZH];omega⟩,?_⟩,λs E=>ZD.1 S s E⟩;have:=(K _ t _ I).1;omega
 refine Ok.ite (λ_=>?_) (λ_=>?_)
 ·refine Ok.take y (by decide) λe M a2 O j=>Ok.take j (by decide) λz N a3 Q A=>Ok.take A (by decide) λF V a4 b4 C=>Ok.take C (by decide) λq m5 a5 b5 H=>Ok.mk ⟨by simp,?_,H⟩;dsimp only;rw[w64 (n:=e - 200) (by omega) (by omega),w64 (n:=e - 200+z) (by omega) (by omega),w64 (n:=3+q) (by omega) (by omega)];intro f hf;simp only[Zp,ZN,ZX] at hf;rcases hf with rfl | rfl
  ·exact Qzj (by decide) (by decide) (by omega)
  ·exact Qzj (by decide) (by decide) (by omega)
 refine Ok.ite (λ_=>?_) (λ_=>?_)
 ·refine Ok.take y (by decide) λe M a2 O j=>Ok.take j (by decide) λz N a3 Q A=>Ok.mk ⟨by simp,?_,A⟩;dsimp only;rw[w64 (n:=e+z) (by omega) (by omega)];intro f hf;rw[Zg] at hf;subst hf;exact QFo (by decide) (by decide) (by omega)
 refine Ok.ite (λ_=>?_) (λ_=>?_)
 ·refine Ok.take y (by decide) λe M a2 O j=>Ok.take j (by decide) λz N a3 Q A=>Ok.take A (by decide) λF V a4 b4 C=>Ok.take C (by decide) λq m5 a5 b5 H=>Ok.mk ⟨by simp,?_,H⟩;dsimp only;rw[w64 (n:=5+z) (by omega) (by omega),w64 (n:=10+q) (by omega) (by omega)];intro f hf;simp only[Zp,ZN,ZX] at hf;rcases hf with rfl | rfl
  ·exact Qtx (by decide) (by omega)
  ·exact Qtx (by decide) (by omega)
 ·exact Ok.mk ⟨by simp,by simp,y⟩
set_option maxHeartbeats 1000000 in
def QFq {m:QR} {l:List QA} {N:Nat} (hm:MOk m) (hl:l.length<=2) (hN:N<=20) (A:∀k∈l,KV N k):
  Ok (Qer m l) (λr=>(KV 9 r.1/\(l.length<=1->KV 8 r.1)/\(l.length=0->KV 5 r.1))/\MOk r.2.1/\r.2.2.length=l.length/\∀k∈r.2.2,KV (N+1) k):=by
 unfold Qer;refine Ok.take hm (by decide) λr1 m1 a1 b1 X=>?_;refine Ok.idx a1 (by simpa using b1) λlo Y _=>?_;refine Ok.idx (by omega) (by simp;omega) λK d _=>?_;have y:QX K=true:=by simp only[Zp,ZN,ZX] at d;rcases d with rfl | rfl | rfl<;>decide
 have e4:0<=lo/\lo<=4:=by simp only[Zp,ZN,ZX] at Y;omega
 refine Ok.take X (by decide) λr2 m2 a2 b2 h2=>?_;refine Ok.take h2 (by decide) λr3 m3 a3 b3 h3=>?_;refine Ok.idx a3 (by simpa using b3) λL Z _=>?_;have j:VF ⟨[105,100],[],[],0,L,0,[],[]⟩:=by simp only[Zp,ZN,ZX] at Z;exact vf_key (by decide) (by omega)
 have M:∀f∈([⟨[105,100],[],[],0,L,0,[],[]⟩]:List Qe),VF f:=λf hf=>by rw[Zg] at hf;subst hf;exact j
 refine Ok.rm (by simp) ?_;refine Ok.bind (P:=λp:QR×List Qe×List QA=>MOk p.1/\(p.2.1.length<=4/\(l.length=0->p.2.1.length<=1))/\(∀f∈p.2.1,VF f)/\p.2.2.length=l.length/\∀k∈p.2.2,KV (N+1) k)
  (Ok.ite (λO=>?_) (λ_=>Ok.mk ⟨h3,⟨by simp,by simp⟩,M,rfl,λk h=>(A k h).Xo (by omega)⟩)) λp hp=>?_
 ·have a0:(0:Int)<l.length:=Zt O;refine Ok.take h3 (by omega) λto m4 a4 F h4=>?_;refine Ok.idx a4 F λkt a6 g7=>?_;refine Ok.take h4 (by decide) λr5 m5 a5 b5 h5=>?_;refine Ok.idx a5 (by simpa using b5) λhi a7 _=>?_;have e5:2<=hi/\hi<=8:=by
   simp only[Zp,ZN,ZX] at a7;omega
  refine Ok.take h5 (by decide) λr6 m6 _ _ h6=>?_;have Q:=(A kt a6).2.2.1;refine Ok.bind (P:=VF) (Ok.ite (λ_=>Ok.mk (Qtw (by decide) Q (by omega))) (λ_=>Ok.mk (Qtw (by decide) Q (by omega)))) λf hf=>?_;refine Ok.rm (by simp) ?_;refine Ok.idx a4 F λa8 B _=>?_;refine (QyU (by have:=(A _ B).1;omega)).bind λc hc=>?_;refine Ok.opt (P:=λr:Int×QR=>MOk r.2) (λh=>(Ql7 h6 (by decide)).Xo λr h=>h.2.2) λr7 h7=>?_;have m7:MOk (bif (decide (c>=(0:Int)))==true then r7.2 else m6):=QmH (λh=>h7 (by rw[h];rfl)) h6;refine Ok.bind (P:=λp:List Qe=>p.length<=3/\∀f∈p,VF f) (Ok.ite (λh=>?_) (λ_=>Ok.mk ⟨by simp,?_⟩)) λR b=>?_
  ·simp only[Zi,Zs] at h;refine Ok.idx a4 F λb0 e6 e7=>?_;have e:b0=a8:=by simp_all
   subst e;refine Ok.idx h.1 hc.2 λg hg _=>Ok.rm (by simp) (Ok.mk ⟨by simp,?_⟩);have sg:=((A _ B).2.1 g hg).name;intro x hx;simp only[Yj,cons_append,Zp,ZN,ZX] at hx;rcases hx with rfl | rfl | rfl
   ·exact j
   ·exact hf
   ·exact QFp (by decide) sg (by decide)
  ·intro x hx;simp only[Yj,cons_append,Zp,ZN,ZX] at hx;rcases hx with rfl | rfl
   ·exact j
   ·exact hf
  ·refine Ok.idx a4 F λg8 S e8=>?_;refine (Qp8 (by have:=(A _ S).1;omega)).bind λb6 e9=>?_;refine Ok.opt (P:=λr:Int×QR=>MOk r.2) (λh=>(Ql7 m7 (by decide)).Xo λr h=>h.2.2) λr8 h8=>?_;have m8:MOk (bif (decide (b6<(0:Int)))==true then r8.2 else (bif (decide (c>=(0:Int)))==true then r7.2 else m6)):=QmH (λh=>h8 (by rw[h];rfl)) m7;refine Ok.bind (P:=λp:QR×List Qe×List QA=>MOk p.1/\(p.2.1.length<=4/\(l.length=0->p.2.1.length<=1))/\(∀f∈p.2.1,VF f)/\p.2.2.length=l.length/\∀k∈p.2.2,KV (N+1) k)
    (Ok.ite (λh=>?_) (λ_=>Ok.mk ⟨m8,⟨by have:=b.1;dsimp only;omega,λh0=>by omega⟩,b.2,rfl,λk h=>(A k h).Xo (by omega)⟩)) λp hp=>Ok.mk hp
   refine Ok.take m8 (by decide) λr9 m9 a9 b9 h9=>Ok.take h9 (by decide) λb7 g9 a10 i0 b8=>?_;refine Ok.rm (by have:=b.1;simp;omega) ?_;refine Ok.idx a4 F λc0 T g0=>?_;have H:=A _ T;have g4:=H.1;refine Ok.rm (by simp;omega) (Ok.rm (by simp;omega) ?_);refine Ok.idx a4 F λc4 g5 g6=>?_;have e:c4=c0:=by simp_all
   subst e;refine Ok.setAt a4 F (Ok.mk ⟨b8,⟨?_,λh0=>by omega⟩,?_,?_,?_⟩)
   ·have:=b.1;simp;omega
   ·intro x hx;rcases ZB.1 hx with hx | hx
    ·exact b.2 x hx
    ·rw[Zg] at hx;subst hx;rw[w64 (n:=r9+b7) (by omega) (by omega)];exact QBF (by decide) (by decide) (by decide) (by omega)
   ·simp
   ·intro k I;rcases mem_or_eq_of_mem_set I with I | rfl
    ·exact (A k I).Xo (by omega)
    ·refine⟨?_,?_,H.2.2⟩
     ·simp;omega
     ·intro x hx;rcases ZB.1 hx with hx | hx
      ·exact H.2.1 x (by simpa using hx)
      ·rw[Zg] at hx;subst hx;exact vf_sum (by decide) y
 ·obtain⟨q1,⟨q2,q6⟩,q3,q4,q5⟩:=hp;refine Ok.opt (P:=λr:Int×QR=>MOk r.2) (λh=>(Ql7 q1 (by decide)).Xo λr h=>h.2.2) λc5 c6=>?_;have c7:MOk (bif (decide ((l.length:Int)>(1:Int)))==true then c5.2 else p.1):=QmH (λh=>c6 (by rw[h];rfl)) q1;refine Ok.bind (P:=λp:List Qe=>(p.length<=5/\(l.length<=1->p.length<=4)/\(l.length=0->p.length<=1))/\∀f∈p,VF f) (Ok.ite (λh=>?_) (λ_=>Ok.mk ⟨⟨by omega,λ_=>q2,q6⟩,q3⟩)) λR b=>?_
  ·simp only[Zi,Zs] at h;refine Ok.idx (by decide) (by omega) λk0 c8 _=>Ok.rm (by simp;omega) (Ok.mk ⟨⟨by simp;omega,λX=>by omega,λX=>by omega⟩,?_⟩);intro x hx;rcases ZB.1 hx with hx | hx
   ·exact q3 x hx
   ·rw[Zg] at hx;subst hx;exact Qtw (by decide) (q5 k0 c8).2.2.1 (by decide)
  ·refine (Qvo c7).bind λz c9=>?_;obtain⟨c1,c2,c3⟩:=c9;obtain⟨⟨f1,f3,f4⟩,f2⟩:=b;refine Ok.rm (by omega) ?_;refine Ok.take c3 (by decide) λi1 i2 _ _ U=>?_;have q:∀f∈R++z.1,VF f:=λx hx=>(ZB.1 hx).elim (f2 x) (c2 x);have C:(R++z.1).length<=7/\(l.length<=1->(R++z.1).length<=6)/\(l.length=0->(R++z.1).length<=3):=by
    rw[Zf];exact⟨by omega,λh=>by have:=f3 h;omega,λh=>by have:=f4 h;omega⟩
   obtain⟨C,s,t⟩:=C;have eh:i64.wrap (lo+r2)=lo+r2:=w64 (by omega) (by omega);refine Ok.bind (P:=λp:QR×List Qe=>MOk p.1/\(p.2.length<=9/\(l.length<=1->p.2.length<=8)/\(l.length=0->p.2.length<=5))/\∀f∈p.2,VF f) (Ok.ite (λh=>?_) (λ_=>Ok.mk ⟨U,⟨by dsimp only;omega,λh=>by have:=s h;dsimp only;omega,λh=>by have:=t h;dsimp only;omega⟩,q⟩)) λi3 a=>Ok.mk ⟨⟨⟨a.2.1.1,a.2.2,y,?_⟩,λh=>⟨a.2.1.2.1 h,a.2.2,y,?_⟩,λh=>⟨a.2.1.2.2 h,a.2.2,y,?_⟩⟩,a.1,q4,q5⟩
   rotate_left
   ·dsimp only;rw[eh];omega
   ·dsimp only;rw[eh];omega
   ·dsimp only;rw[eh];omega
   refine (Qvo U).bind λV e3=>?_;obtain⟨d1,d2,d3⟩:=e3;refine Ok.opt (P:=λ_=>True) (λh=>?_) λg _=>?_
   ·have h':(V.1.length:Int)>0:=by simpa using h
    exact (Ok.idx (by decide) (by omega) λv _ _=>Ok.mk trivial:Ok ((idx V.1 0).bind some) _).Xo (λ_ h=>h) |> λh=>by simpa using h
   refine Ok.opt (P:=λ_=>True) (λh=>(Qp8 (by omega)).Xo λ_ _=>trivial) λg2 _=>?_;refine Ok.bind (P:=λp:List Qe=>(p.length<=9/\(l.length<=1->p.length<=8)/\(l.length=0->p.length<=5))/\∀f∈p,VF f) (Ok.ite (λh=>Ok.rm (by omega) (Ok.mk ⟨⟨by rw[Zf];omega,λh=>by rw[Zf];have:=s h;omega,λh=>by rw[Zf];have:=t h;omega⟩,λx hx=>(ZB.1 hx).elim (q x) (d2 x)⟩)) (λ_=>Ok.mk ⟨⟨by omega,λh=>by have:=s h;omega,λh=>by have:=t h;omega⟩,q⟩)) λi4 E=>Ok.mk ⟨d3,E.1,E.2⟩
def Qrw {s:Str} (h:QX s=true):∀c∈s,(QcZ (c.toNat:Int)||Qg1 (c.toNat:Int))=true:=by unfold QX at h;simp only[Zi] at h;intro c b;have a:=h.2.2;unfold Qab at a;rw[all_map] at a;exact ZD.1 a c b
def QnO {a r:Str} (ha:QX a=true) (hl:a.length<=10) (g:r.length=1) (hm:∀c∈r,(QcZ (c.toNat:Int)||Qg1 (c.toNat:Int))=true):QX (a++r)=true:=by
 cases a with
 | nil=>cases ha
 | cons b a=>
  have e:=Qrw ha;unfold QX at ha ⊢;simp only[Zi,cons_append] at ha ⊢;refine⟨Qjg (by simp only[Zk,Zf] at hl ⊢;omega),ha.2.1,?_⟩;unfold Qab;rw[all_map,ZD];intro c d;rw[<-cons_append] at d;rcases ZB.1 d with d | d
  ·exact e c d
  ·exact hm c d
def QFr {m:QR} {k:QA} (hm:MOk m) (A:KV 9 k):Ok (Qes m k) (λr=>(r.2.1=true->QdY r.1=true)/\MOk r.2.2):=by
 unfold Qes;obtain⟨L,B,j,_⟩:=A;have M:=Qb7 j;have N:1<=k.Xj.length:=by unfold QX at j;simp only[Zi] at j;have:=(Qdi j.1).1;omega
 refine (Qp8 (by omega)).bind λa ha=>(Qp8 (by omega)).bind λb hb=>?_;refine Ok.opt (P:=λr:Int×QR=>MOk r.2) (λh=>(Ql7 hm (by decide)).Xo λr h=>h.2.2) λr1 l=>?_;have p:MOk (bif (decide (a>=(0:Int)))==true then r1.2 else m):=QmH (λh=>l (by rw[h];rfl)) hm;have q:∀{y:Type} {Q:y->Prop} {f:Str->Option y},(∀r:Str,r.length=1->(∀c∈r,(QcZ (c.toNat:Int)||Qg1 (c.toNat:Int))=true)->Ok (f r) Q)->Ok ((sub k.Xj 0 1).bind f) Q:=λh=>Ok.sub (by decide) (by decide) (by omega) λr e s=>h r (by simpa using e) λc C=>Qrw j c (s c C);have g:∀{n a b:Str} {v:Int},QX n=true->((a==[])||QX a)=true->((b==[])||QX b)=true->(a++b !=[])=true->-2000<=v/\v<=2000->QdY ⟨n,k.Xj,a,b,v⟩=true:=λl d E F O=>by unfold QdY;simp only[l,j,d,E,F,Bool.true_and,Bool.and_self];exact Qjg (by omega)
 refine Ok.ite (λ_=>q λr e hm=>Ok.cat (by simp;omega) (Ok.take p (by decide) λv t a2 z d=>Ok.mk ⟨λ_=>?_,d⟩)) (λ_=>?_)
 ·dsimp only;rw[w64 (n:=v - 2) (by omega) (by omega)];exact g (QnO (by decide) (by decide) e hm) (by decide) (by decide) (by decide) (by omega)
 refine Ok.ite (λ_=>Ok.mk ⟨λh=>(by cases h),p⟩) (λh=>?_);have H:¬b<0:=ZA h;refine Ok.idx (by omega) hb.2 λf hf _=>Ok.take p (by decide) λR t _ _ d=>?_;obtain⟨_,_,I,K⟩:=B f hf;refine Ok.ite (λ_=>q λr e hm=>Ok.cat (by simp;omega) (Ok.take d (by decide) λv t a2 z d=>Ok.mk ⟨λ_=>?_,d⟩)) (λ_=>q λr e hm=>Ok.cat (by simp;omega) (Ok.take d (by decide) λv t a2 z d=>Ok.mk ⟨λ_=>?_,d⟩))
 ·dsimp only;rw[w64 (n:=f.Lo+v) (by omega) (by omega)];exact g (QnO (by decide) (by decide) e hm) (by decide) (by decide) (by decide) (by omega)
 ·dsimp only;rw[w64 (n:=v - f.Hi) (by omega) (by omega)];exact g (QnO (by decide) (by decide) e hm) (by decide) (by decide) (by decide) (by omega)
def bdN (n:Nat):Nat:=if n<=1 then 5 else if n<=2 then 8 else 9
def QBG {l:List Int} (hl:∀x∈l,I64 x):Ok (Qfj l) (λx=>Tiny x/\Qgb x=true/\∀k∈x.Xa,KV 9 k):=by
 unfold Qfj;refine Ok.sub (by decide) (by unfold imin;split<;>omega) (by unfold imin;split<;>omega) λw _ hw=>?_;have h0:MOk (QR.mk w 0):=λx hx=>hl x (hw x hx);refine Ok.take h0 (by decide) λv m1 av bv S=>Ok.take S (by decide) λn m2 a2 b2 T=>?_;have X:i64.wrap (1+n)=1+n:=w64 (by omega) (by omega);refine Ok.bind (P:=λp:List QA×QR=>p.1.length=1+n/\(∀k∈p.1,KV 9 k)/\MOk p.2)
  (Ok.loop (λk s=>0<=s.1/\s.1+k=1+n/\s.2.1.length=s.1/\(∀q∈s.2.1,KV (bdN s.1.toNat) q)/\MOk s.2.2) (1+n).toNat ⟨Zx _,by dsimp only;omega,by simp,by simp,T⟩ λk s E=>?_) (λp hp=>?_)
 ·obtain⟨i,ks,m3⟩:=s;obtain⟨e1,e2,j,g,Y⟩:=E;dsimp only at e1 e2 j g Y;have Z:bdN i.toNat<=9:=by unfold bdN;split<;>(try split)<;>omega
  refine Ok.ite (λh=>?_) (λh=>?_)
  ·have h':i<1+n:=by have:=Zt h;rwa [X] at this
   refine (QFq (N:=bdN i.toNat) Y (by omega) (by omega) g).bind λr U=>?_;obtain⟨⟨r1,r5,r6⟩,r2,r3,r4⟩:=U;refine Ok.rm (by simp;omega) (Ok.mk ?_);have H:i64.wrap (i+1)=i+1:=w64 (by omega) (by omega);refine⟨k - 1,by omega,?_⟩;dsimp only;rw[H];refine⟨by omega,by omega,by simp;omega,λq d=>?_,r2⟩;have hi:i=0\/i=1\/i=2:=by omega
   rcases ZB.1 d with d | d
   ·refine (r4 q d).Xo ?_;rcases hi with rfl | rfl | rfl
    ·have:ks.length=0:=by omega
     rw[length_eq_zero_iff.1 (by rw[r3,this]:r.2.2.length=0)] at d;cases d
    ·decide
    ·decide
   ·rw[Zg] at d;subst d;rcases hi with rfl | rfl | rfl
    ·exact r6 (by omega)
    ·exact r5 (by omega)
    ·exact r1
  ·have h':¬i<1+n:=by have:=ZA h;rwa [X] at this
   refine Ok.mk ⟨by dsimp only;omega,λq d=>(g q d).Xo Z,Y⟩
 obtain⟨p1,V,p3⟩:=hp;refine Ok.take p3 (by decide) λt m4 a4 b4 h4=>?_;have et:i64.wrap (2+t)=2+t:=w64 (by omega) (by omega);refine Ok.sub (by decide) (by dsimp only;rw[et];omega) (by dsimp only;rw[et];simp;omega) λe I a0=>?_;dsimp only at I;rw[et] at I;have a7:2<=e.length/\e.length<=4:=by omega
 have a1:e.all QX=true:=by rw[ZD];intro s E;have:=a0 s E;simp only[Zp,ZN,ZX] at this;rcases this with rfl | rfl | rfl | rfl<;>decide
 have mv:∀{a b:Int},0<=a/\a<e.length->0<=b/\b<e.length->QeI (e.length:Int) ⟨a,b⟩=true:=λS T=>by unfold QeI;rw[Qjg (by dsimp only;omega),Qjg (by dsimp only;omega)];rfl
 refine Ok.bind (P:=λp:List Qar=>p.length<=3/\∀m∈p,QeI (e.length:Int) m=true) (Ok.loop (λk s=>0<=s.1/\s.1+1+k=e.length/\s.2.length=s.1/\∀m∈s.2,QeI (e.length:Int) m=true) (e.length - 1) ⟨Zx _,by dsimp only;omega,by simp,by simp⟩ λk s E=>?_) (λa8 K=>?_)
 ·obtain⟨i,ms⟩:=s;obtain⟨e1,e2,j,g⟩:=E;dsimp only at e1 e2 j g;have H:i64.wrap (i+1)=i+1:=w64 (by omega) (by omega);refine Ok.ite (λh=>?_) (λh=>?_)
  ·have h':i+1<e.length:=by have:=Zt h;rwa [H] at this
   refine Ok.rm (by simp;omega) (Ok.mk ⟨k - 1,by omega,?_⟩);dsimp only;rw[H];refine⟨by omega,by omega,by simp;omega,λq d=>?_⟩;rcases ZB.1 d with d | d
   ·exact g q d
   ·rw[Zg] at d;subst d;exact mv (by omega) (by omega)
  ·have h':¬i+1<e.length:=by have:=ZA h;rwa [H] at this
   exact Ok.mk ⟨by dsimp only;omega,g⟩
 obtain⟨K,L⟩:=K;have z:∀{ms:List Qar} {m:Qar},(∀q∈ms,QeI (e.length:Int) q=true)->QeI (e.length:Int) m=true->∀q∈ms++[m],QeI (e.length:Int) q=true:=λS T q d=>by
  rcases ZB.1 d with d | d
  ·exact S q d
  ·rw[Zg] at d;subst d;exact T
 refine Ok.take h4 (by decide) λr5 m5 _ _ h5=>?_;refine Ok.bind (P:=λp:List Qar=>p.length<=4/\∀m∈p,QeI (e.length:Int) m=true) (Ok.ite (λ_=>Ok.rm (by simp;omega) (Ok.mk ⟨by simp;omega,z L (mv (by omega) (by omega))⟩)) (λ_=>Ok.mk ⟨by omega,L⟩)) λa9 A=>?_;obtain⟨A,B⟩:=A;refine Ok.take h5 (by decide) λr6 m6 _ _ h6=>?_;have es:i64.wrap ((e.length:Int) - 1)=(e.length:Int) - 1:=w64 (by omega) (by omega);refine Ok.bind (P:=λp:List Qar=>p.length<=5/\∀m∈p,QeI (e.length:Int) m=true) (Ok.ite (λ_=>Ok.rm (by simp;omega) (Ok.mk ⟨by simp;omega,by rw[es];exact z B (mv (by omega) (by omega))⟩)) (λ_=>Ok.mk ⟨by omega,B⟩)) λa3 C=>?_;obtain⟨C,M⟩:=C;refine Ok.rm (by simp) ?_;refine Ok.bind (P:=λp:List QL=>p.length<=2/\∀r∈p,QdY r=true) (Ok.loop (λk s=>0<=s.1/\s.1+k=1+n/\(s.2.1.length<=2/\∀r∈s.2.1,QdY r=true)/\MOk s.2.2) (1+n).toNat ⟨Zx _,by dsimp only;omega,by simp,h6⟩ λk s E=>?_) (λrs F=>?_)
 ·obtain⟨i,rs,m7⟩:=s;obtain⟨e1,e2,j,g⟩:=E;dsimp only at e1 e2 j g;refine Ok.ite (λh=>?_) (λh=>Ok.mk j);simp only[Zi,Zs,X] at h;refine Ok.idx e1 (by omega) λq d _=>(QFr g (V q d)).bind λr U=>?_;refine Ok.bind (P:=λp:List QL=>p.length<=2/\∀r∈p,QdY r=true) (Ok.ite (λhy=>Ok.rm (by simp;omega) (Ok.mk ⟨by simp;omega,λy a5=>(ZB.1 a5).elim (j.2 y) λO=>by rw[Zg] at O;subst O;exact U.1 hy⟩)) (λ_=>Ok.mk j)) λb0 Q=>Ok.mk ⟨k - 1,by omega,?_⟩;dsimp only;rw[w64 (n:=i+1) (by omega) (by omega)];exact⟨by omega,by omega,Q,U.2⟩
 ·refine Ok.mk ⟨⟨by dsimp only;omega,λk R f hf=>((V k R).2.1 f hf).2.1,by simp,?_,F.1⟩,?_,V⟩
  ·intro q d;simp only[Yj,Zg] at d;subst d;exact⟨by dsimp only;omega,by dsimp only;omega⟩
  ·have R:p.1.all QeH=true:=by
    rw[ZD];intro k R;obtain⟨c1,c2,c3,c4⟩:=V k R;unfold QeH;simp only[Zi,Zs,ZD];exact⟨⟨⟨c3,QkH (by omega)⟩,by omega⟩,λf hf=>(c2 f hf).1⟩
   have a6:QfC ⟨[108,105,102,101],e,a3⟩=true:=by unfold QfC;simp only[Zi,Zs];exact⟨⟨⟨⟨by decide,Qjg (by omega)⟩,a1⟩,by omega⟩,ZD.2 M⟩
   unfold Qgb;simp only[Zi,Zs];refine⟨⟨⟨⟨⟨⟨Qjg (by omega),by omega⟩,by simp⟩,by have:=F.1;omega⟩,R⟩,?_⟩,ZD.2 F.2⟩;simp[a6]
structure Gx (x:Qc):Prop where
  short:Qqc x
  kv:∀k∈x.Xa,KV 9 k
def only_w {f:Qe} (h:¬f.Xi=3):(Qdl f).Xf=[]:=by
  unfold Qdl;split
  · rfl
  split
  · rfl
  split
  · rfl
  split
  · rfl
  split
  · rfl
  split<;>rfl
def QwH {x:Qc} (h:Tiny x) (m:Qgb x=true) (b:∀k∈x.Xa,KV 9 k):Gx x:=by
  have v:=QjZ m;have p:=h.kinds;have q:=h.lives;have d:=h.rules;refine⟨⟨⟨by omega,λk a=>by have:=(b k a).1;omega⟩,⟨⟨by omega,λk a=>⟨by have:=(b k a).1;omega,λf hf=>?_⟩⟩,⟨by omega,λl hl=>by have:=h.life l hl;omega⟩,by omega⟩,by omega,by omega⟩,b⟩;have s:=h.words k a f hf;have g:=QhK ((Qip (v.kind k a)).2.2 f hf);refine⟨by omega,?_⟩;by_cases d:f.Xi=3
  · have:=g.pick d;omega
  · have j:=(Qip (v.kind k a)).2.2 f hf;unfold QaN QdB at j;simp only[Zi,Yf,Zs] at j;have e:=j.1.2.2;rw[e,only_w d];simp
def QBH {l:List Int} (hl:∀x∈l,I64 x):Ok (Qfj l) Gx:=(QBG hl).Xo λ_ h=>QwH h.1 h.2.1 h.2.2
section
variable {x:Qc} {k f:Nat}
def Gx.fd (h:Gx x) (a:k<x.Xa.length) (hf:f<nf x k):(-1000<=(fd x k f).Lo/\(fd x k f).Lo<=1000)/\(-1000<=(fd x k f).Hi/\(fd x k f).Hi<=1000):=((h.kv _ (Qmc a)).2.1 _ (Qts hf)).2.2
def Gx.kd (h:Gx x) (a:k<x.Xa.length):nf x k<=9/\0<=(kd x k).Lo/\(kd x k).Lo<=(kd x k).Hi/\(kd x k).Hi<=60:=⟨(h.kv _ (Qmc a)).1,(h.kv _ (Qmc a)).2.2.2⟩
end
def QnP {l:List Int} {i n:Int} (hl:∀x∈l,I64 x):Ok (Qd3 l i n) (λr=>0<=r/\(1<=n->r<n)/\(n<=0->r=0)):=by unfold Qd3;refine Ok.ite (λ_=>Ok.mk ⟨Zx _,λh=>by omega,λ_=>rfl⟩) (λh=>?_);simp only[Bool.or_eq_false_iff,ZI] at h;refine Ok.idx (by omega) (by omega) λv a _=>?_;exact (Qrl (hl v a)).bind λr b=>Ok.mk b
def QcG (x:Qc) (p:List Int):Prop:=p.length<=x.Xa.length/\∀i,i<p.length->0<=p.getD i 0/\p.getD i 0<=(kd x i).Hi
def Qvp {x:Qc} (a:QkF x):(limL QK.mk x).length<=1000:=by have:=QcW x.Xa.length (kndL QK.mk x) 22 λk _=>(QqR QK.mk a k).1;have:=a.kinds;unfold limL;omega
def lim_b {x:Qc} {y:QK} (h:y∈limL QK.mk x):y.B<x.Xa.length:=by
  obtain⟨i,hi,h⟩:=Yb.1 h;have a:i<x.Xa.length:=Ym.1 hi;unfold kndL at h;rw[Qtt a] at h;dsimp only at h;rcases ZB.1 h with h | h
  · simp only[Qkr,Zp,ZN,ZX] at h;rcases h with rfl | rfl<;>(dsimp only;omega)
  · obtain⟨j,_,h⟩:=Yb.1 h;unfold fldL at h;split at h
    · split at h
      · simp only[Qkr,Zp,ZN,ZX] at h;rcases h with rfl | rfl<;>exact (Qgj x _).2
      · cases h
    · cases h
def lim_hi {x:Qc} {k:Nat} (a:k<x.Xa.length):QK.mk (k:Int) (-1) (kd x k).Hi false∈limL QK.mk x:=by refine Yb.2 ⟨k,Ym.2 a,?_⟩;unfold kndL;rw[Qtt a];exact mem_append_left _ (by simp[Qkr])
def QBI {L:List QK} {n:Nat} (d:n<=1000) (hl:L.length<=1000) (hb:∀y∈L,y.B<(n:Int)):Ok (Qhx (n:Int) L) (λr=>r.length=n):=by
  unfold Qhx;rw[Qf6 n false (by omega)];simp only[Za];refine Ok.bind (P:=λr:List Bool=>r.length=n) (Ok.cnt L.length (λ_ s=>s.length=n) (by simp) (λi s hi a=>?_) λs a=>?_) λr b=>Ok.mk b
  · rw[QaC hi,QY hi];dsimp only[Option.bind_some];have hy:=hb _ (Zo hi);refine Ok.bind (P:=λr:List Bool=>r.length=n) (Ok.ite (λh=>?_) λ_=>Ok.mk a) λr b=>Ok.mk ⟨QD hi (by omega),b⟩;exact Ok.setAt (Zt h) (by rw[a];exact hy) (Ok.mk (by rw[ZH];exact a))
  · rw[QaE];exact Ok.mk a
def Qzk {x:Qc} (a:x.Xa.length<=1000) (d:D.length=x.Xa.length):Ok (QgR x D) (λ_=>True):=by unfold QgR;refine Ok.bind (P:=λ_=>True) (Ok.cnt x.Xa.length (λ_ _=>True) trivial (λi s hi _=>?_) λs _=>by rw[QaE];exact Ok.mk trivial) λr _=>Ok.mk trivial;rw[QaC hi];refine Ok.idx (by dsimp only;omega) (by dsimp only;omega) λb _ _=>?_;rw[Qbl hi];refine Ok.bind (P:=λ_=>True) (Ok.ite (λ_=>Ok.mk trivial) λ_=>Ok.mk trivial) λr _=>Ok.mk ⟨QD hi (by omega),trivial⟩
def Qzl {x:Qc} {L:List QK} {now:List Int} (hl:L.length<=1000) (F:∀k,k<x.Xa.length->QK.mk (k:Int) (-1) (kd x k).Hi false∈L) (H:now.length<x.Xa.length):
    Ok (Qig L now) (λr=>0<=r.1/\r.2<=(kd x now.length).Hi/\r.2<=65536):=by
  unfold Qig;refine Ok.bind (P:=λr:Int×Int=>0<=r.2/\r.1<=(kd x now.length).Hi/\r.1<=65536) (Ok.cnt L.length (λi s=>0<=s.2/\s.1<=65536/\∀j (d:j<L.length),j<i->L[j].A=now.length->L[j].B=-1->L[j].Xh=false->s.1<=L[j].Mul) ⟨by decide,by decide,λj _ h=>by omega⟩ (λi s hi t=>?_) λs t=>?_) λr I=>Ok.mk I
  · obtain⟨h0,z,m⟩:=t;obtain⟨g,K⟩:=s;dsimp only at h0 z m;rw[QaC hi,QY hi];dsimp only[Option.bind_some];have l:∀{a b:Int},0<=b->a<=g->(L[i].A=now.length->L[i].B=-1->L[i].Xh=false->a<=L[i].Mul)->(0<=b/\a<=65536/\∀j (d:j<L.length),j<i+1->L[j].A=now.length->L[j].B=-1->L[j].Xh=false->a<=L[j].Mul):=λ{a b} hb ha M=>by
      refine⟨hb,by omega,λj d A e1 e2 C=>?_⟩;rcases Nat.lt_succ_iff_lt_or_eq.1 A with h | h
      · have:=m j d h e1 e2 C;omega
      · subst h;exact M e1 e2 C
    refine Ok.bind (P:=λp:Int×Int=>0<=p.2/\p.1<=65536/\∀j (d:j<L.length),j<i+1->L[j].A=now.length->L[j].B=-1->L[j].Xh=false->p.1<=L[j].Mul) ?_ λp hp=>Ok.mk ⟨QD hi (by omega),hp⟩;refine Ok.opt (P:=λy:QK=>y=L[i]) (λ_=>Ok.mk rfl) λy hy=>?_;refine Ok.ite (λh=>Ok.mk (l h0 (Zx _) λe1 e2 _=>?_)) λh=>?_
    · rw[ZJ] at h;rcases h with h | h
      · rw[e1] at h;simp at h
      · by_cases hA:(L[i].A !=(now.length:Int))=true
        · rw[e1] at hA;simp at hA
        · have:=hy (by simpa using hA);subst this;have:=Zt h;omega
    · rw[Bool.or_eq_false_iff] at h;have:=hy (by rw[h.1];rfl);subst this;have N:L[i].B<now.length:=by have:=ZA h.2;omega
      refine Ok.bind (P:=λp:Int=>L[i].B=-1->p=L[i].Mul) (Ok.ite (λO=>?_) λ_=>Ok.mk λ_=>rfl) λp hp=>?_
      · have:=Zt O;exact Ok.idx this N λv _ _=>Ok.mk λe=>by omega
      · refine Ok.bind (P:=λq:Int×Int=>0<=q.1/\q.2<=g/\(L[i].A=now.length->L[i].B=-1->L[i].Xh=false->q.2<=L[i].Mul)) (Ok.ite (λE=>Ok.mk ⟨?_,Zx _,λ_ _ e=>?_⟩) λE=>Ok.mk ⟨h0,?_,λ_ e _=>?_⟩) λq B=>Ok.mk (l B.1 B.2.1 B.2.2)
        · dsimp only;unfold imax;split<;>omega
        · rw[E] at e;cases e
        · dsimp only;unfold imin;split<;>omega
        · dsimp only;rw[hp e];unfold imin;split<;>omega
  · rw[QaE];obtain⟨h0,z,m⟩:=t;obtain⟨j,d,e⟩:=mem_iff_getElem.1 (F now.length H);have:=m j d d (by rw[e]) (by rw[e]) (by rw[e]);rw[e] at this;exact Ok.mk ⟨h0,this,z⟩
def Qos {a b:List Int} (ha:a.length<=1000):Ok (QcT a b) (λ_=>True):=by unfold QcT;refine Ok.bind (P:=λ_=>True) (Ok.loop (λk s=>0<=s.1/\s.1+k=a.length+1) (a.length+1) ⟨by decide,by omega⟩ λk s d=>?_) λr _=>Ok.mk trivial;refine Ok.ite (λh=>?_) λ_=>Ok.mk trivial;simp only[Zi,Zs] at h;refine Ok.idx d.1 h.1 λv _ e1=>Ok.idx d.1 h.2 λw _ e2=>?_;refine Ok.idx d.1 h.2 λw _ _=>Ok.idx d.1 h.1 λv _ _=>Ok.mk ⟨k - 1,by omega,?_⟩;rw[w64 (n:=s.1+1) (by omega) (by omega)];dsimp only;omega
def Qzm {a b:List Int} (ha:a.length<=1000):Ok (QgS a b) (λ_=>True):=by
  unfold QgS;refine Ok.bind (P:=λ_=>True) (Ok.loop (λk s=>0<=s/\s+k=a.length+1) (a.length+1) ⟨by decide,by omega⟩ λk s d=>?_) λr _=>by cases r<;>exact Ok.mk trivial
  refine Ok.ite (λh=>?_) λ_=>Ok.mk trivial;simp only[Zi,Zs] at h;refine Ok.idx d.1 h.1 λv _ e1=>Ok.idx d.1 h.2 λw _ e2=>?_;refine Ok.ite (λ_=>Ok.idx d.1 h.1 λv _ _=>Ok.idx d.1 h.2 λw _ _=>Ok.mk trivial) λ_=>Ok.mk ⟨k - 1,by omega,?_⟩;rw[w64 (n:=s+1) (by omega) (by omega)];omega
def Qzn {a b:List Int} (d:w.length<=1000) (hb:b.length<=1000):Ok (QgT w a b) (λr=>r=a\/r=b):=by unfold QgT;refine Ok.ite (λ_=>Ok.mk (.inr rfl)) λ_=>Ok.ite (λ_=>Ok.mk (.inl rfl)) λ_=>?_;refine (Qos d).bind λd1 _=>(Qos d).bind λd2 _=>?_;refine Ok.ite (λ_=>(Qos d).bind λd3 _=>(Qos d).bind λd4 _=>Ok.ite (λ_=>Ok.mk (.inl rfl)) λ_=>Ok.mk (.inr rfl)) λ_=>?_;exact (Qzm hb).bind λb _=>Ok.ite (λ_=>Ok.mk (.inr rfl)) λ_=>Ok.mk (.inl rfl)
def QcG.snoc {x:Qc} {p:List Int} (h:QcG x p) (hl:p.length<x.Xa.length) {v:Int} (h0:0<=v) (b:v<=(kd x p.length).Hi):QcG x (p++[v]):=by
  refine⟨by simp;omega,λi hi=>?_⟩;rw[Qlo];by_cases a:i<p.length
  · rw[Zc a];exact h.2 i a
  · have:i=p.length:=by simp at hi;omega
    rw[Zb a,Zc this,this];exact⟨h0,b⟩
def QnQ {x:Qc} {L:List QK} (z:x.Xa.length<=1000) (hl:L.length<=1000) (g:∀k,k<x.Xa.length->QK.mk (k:Int) (-1) (kd x k).Hi false∈L) (A:D.length=x.Xa.length) (B:w.length=x.Xa.length):
    ∀(N:Nat) (p:List Int),QcG x p->x.Xa.length<p.length+N->Ok (Qee N L D w p) (λr=>r=[]\/(r.length=x.Xa.length/\QcG x r))
  | 0,p,hp,hN=>by have:=hp.1;omega
  | N+1,p,hp,hN=>by
    show Ok (Qfx (Qee N) L D w p) _;unfold Qfx;have C:=hp.1;refine Ok.ite (λh=>?_) λh=>?_
    · have:p.length=w.length:=Int.ofNat_inj.1 (by simpa using h);refine Ok.rm (by simp;omega) (Ok.mk (.inr ⟨by simp;omega,by simpa using hp⟩))
    · have hne:p.length≠w.length:=λe=>by simp[e] at h
      refine (Qzl hl g (now:=p) (by omega)).bind λr a=>?_;obtain⟨r1,I,K⟩:=a;refine Ok.ite (λ_=>Ok.mk (.inl rfl)) λd=>?_;have j:r.1<=r.2:=by have:=ZA d;omega
      refine Ok.idx (by omega) (by omega) λb _ _=>?_;have l:∀v:Int,0<=v->v<=r.2->Ok (Qee N L D w (([]++p)++[v])) (λr=>r=[]\/(r.length=x.Xa.length/\QcG x r)):=λv h0 m=>by rw[Yj];exact QnQ z hl g A B N _ (hp.snoc (by omega) h0 (by omega)) (by simp;omega)
      refine Ok.ite (λ_=>?_) λ_=>?_
      · refine Ok.idx (by omega) (by omega) λt _ _=>Ok.rm (by simp;omega) (Ok.rm (by simp;omega) ?_);refine Ok.bind (l _ ?_ ?_) λr a=>Ok.mk a
        · unfold imin imax;split<;>split<;>omega
        · unfold imin imax;split<;>omega
      · refine Ok.bind (P:=λr=>r=[]\/(r.length=x.Xa.length/\QcG x r)) (Ok.loop (λk s=>0<=s.1/\s.1+k=r.2+1/\(s.2=[]\/(s.2.length=x.Xa.length/\QcG x s.2))) (r.2+1 - r.1).toNat ⟨r1,by dsimp only;omega,.inl rfl⟩ λk s E=>?_) λr a=>Ok.mk a;obtain⟨m,M,y⟩:=E;refine Ok.ite (λh=>?_) λ_=>Ok.mk y;have F:=Zt h;refine Ok.rm (by simp;omega) (Ok.rm (by simp;omega) ((l s.1 m F).bind λt ht=>?_));refine (Qzn (by omega) (by rcases ht with rfl | ht;simp;omega)).bind λq H=>Ok.mk ⟨k - 1,by omega,?_⟩;rw[w64 (n:=s.1+1) (by omega) (by omega)];refine⟨by dsimp only;omega,by dsimp only;omega,?_⟩;rcases H with rfl | rfl
        · exact y
        · exact ht
def QwI {l:List Int} (hl:l.length<=1000):Ok (QfZ l) (λ_=>True):=by
  unfold QfZ;refine Ok.bind (P:=λ_=>True) (Ok.cnt0 l.length (λ_=>True) trivial (λi hi _=>?_) λ_=>by rw[QaE];exact Ok.mk trivial) λr _=>by cases r<;>exact Ok.mk trivial
  rw[QaC hi,QY hi];dsimp only[Option.bind_some];refine Ok.opt (P:=λ_=>True) (λ_=>Ok.mk trivial) λy _=>Ok.ite (λ_=>Ok.mk trivial) λ_=>Ok.mk ⟨QD hi (by omega),trivial⟩
def Qzo {x:Qc} (hx:Gx x) (q:w.length<=1000):Ok (Qih x w) (λr=>r.2=0->Qbb x=[]/\r.1.length=x.Xa.length/\QcG x r.1):=by
  unfold Qih;rw[QwG hx.short];simp only[Za];unfold limR
  cases j:Qbb x with
  | cons p l=>have hp:p.Code≠0:=QBE (x:=x) (by rw[j];exact Zq ..);dsimp only;rw[Zc (by simpa using hp)];exact Ok.mk λh=>(hp h).elim
  | nil=>
    have e:=QdZ j;have s:=e.kinds;dsimp only;rw[Zb (by decide)];refine Ok.opt (P:=λ_=>True) (λ_=>QwI q) λb _=>?_;refine Ok.ite (λ_=>Ok.mk λh=>absurd h (by decide)) λd=>?_;rw[Bool.or_eq_false_iff] at d;have a:w.length=x.Xa.length:=Int.ofNat_inj.1 (by simpa using d.1);rw[a];refine (QBI (by omega) (Qvp e) λy hy=>lim_b hy).bind λD m=>(Qzk (by omega) m).bind λb _=>?_;refine Ok.ite (λ_=>Ok.mk λh=>absurd h (by decide)) λ_=>?_;refine Ok.ite (λh=>Ok.mk λ_=>⟨rfl,?_,?_,?_⟩) λ_=>?_
    · have:x.Xa.length=0:=by simpa using h
      simp[this]
    · simp
    · intro i hi;simp at hi
    · unfold Qh1;refine (QnQ (by omega) (Qvp e) (λk t=>lim_hi t) m a (w.length+2) [] ⟨by simp,λi hi=>by simp at hi⟩ (by simp;omega)).bind λr g=>?_;refine Ok.ite (λ_=>Ok.mk λh=>absurd h (by decide)) λhne=>Ok.mk λ_=>⟨rfl,?_⟩;rcases g with rfl | g
      · simp at hne
      · exact g
def QoP {x:Qc} (hx:Gx x) {l:List Int} (hl:∀y∈l,I64 y):Ok (Qfl x l) (λr=>r.2=true->Qbb x=[]/\r.1.length=x.Xa.length/\QcG x r.1):=by
  have d:=hx.short.few.1;unfold Qfl;refine Ok.bind (P:=λr:List Int=>r.length=x.Xa.length) (Ok.cnt x.Xa.length (λi s=>s.length=i) rfl (λi s hi a=>?_) λs a=>by rw[QaE];exact Ok.mk a) λw e=>?_
  · rw[QaC hi];refine (QnP hl).bind λr _=>Ok.rm (by simp;omega) (Ok.mk ⟨QD hi (by omega),?_⟩);simp[a]
  · refine (Qzo hx (w:=w) (by omega)).bind λr b=>Ok.mk λh=>b (by simpa using h)
def cN (p:List Int) (k:Nat):Nat:=(p.getD k 0).toNat
def FitC (x:Qc) (c:Nat->Nat) (n:Nat):Prop:=∀k f,k<n->f<nf x k->∀u:Nat,upIx x k f=u->0<c k->0<c u
def Qlr {x:Qc} {p:List Int} (h:QcG x p) {k:Nat} (a:k<p.length):p.getD k 0=(cN p k:Int):=by have:=(h.2 k a).1;unfold cN;omega
def QwJ {x:Qc} (hf:Few x) {p:List Int} (hp:p.length=x.Xa.length) (h0:QcG x p):Ok (Qf0 x p) (λr=>r=true->FitC x (cN p) p.length):=by
  have H:=hf.1;unfold Qf0;refine Ok.bind (P:=λr:Unit⊕Bool=>match r with | .inl _=>FitC x (cN p) p.length | .inr b=>b=false) (Ok.cnt0 p.length (FitC x (cN p)) (λk f h=>by omega) (λi hi q=>?_) λq=>by rw[QaE];exact Ok.mk q) λr g=>?_
  · rw[QaC hi];have a:i<x.Xa.length:=by omega
    refine Ok.bind (P:=λr:Unit⊕Bool=>match r with | .inl _=>∀f,f<nf x i->∀u:Nat,upIx x i f=u->0<cN p i->0<cN p u | .inr b=>b=false)
      (Ok.cnt0 (kd x i).Xb.length (λj=>∀f,f<j->∀u:Nat,upIx x i f=u->0<cN p i->0<cN p u) (λf h=>by omega) (λj C s=>?_) λs=>?_) λr g=>?_
    · rw[Qbl a];dsimp only[Option.bind_some];rw[QaC C,Qiq hf];dsimp only[Option.bind_some];have hu:=Qon x i j (by omega);refine Ok.opt (P:=λv=>v=p.getD i 0) (λ_=>Ok.eq (Qdb hi) rfl) λv I=>?_;refine Ok.opt (P:=λw=>∀u:Nat,upIx x i j=u->w=p.getD u 0) (λh=>?_) λw K=>?_
      · have L:(0:Int)<=upIx x i j/\0<v:=by simpa using h
        obtain⟨u,e⟩:=ZG L.1;rw[e];refine Ok.eq (Qdb (d:=0) (by omega)) λM e'=>?_;have:u=M:=by omega
        rw[this]
      · refine Ok.ite (λ_=>Ok.mk rfl) λE=>Ok.mk ⟨QD C (by have:=hf.2 _ (Qmc a);omega),λf t u e m=>?_⟩;rcases Nat.lt_succ_iff_lt_or_eq.1 t with h | h
        · exact s f h u e m
        · subst h;have y:v=cN p i:=by
            by_cases z:(decide (upIx x i f>=0)==true)=true
            · rw[I z];exact Qlr h0 hi
            · rw[e] at z;simp at z
          have F:(decide (upIx x i f>=0)&&decide (v>0))=true:=by rw[e,y];simp;omega
          have A:=K (by rw[F];rfl) u e;have B:u<p.length:=by omega
          rw[F,Bool.true_and,A,Qlr h0 B] at E;have:((cN p u:Nat):Int)≠0:=by simpa using E
          omega
    · rw[Qbl a];dsimp only[Option.bind_some];rw[QaE];exact Ok.mk s
    · cases r with
      | inr b=>exact Ok.mk g
      | inl _=>
        refine Ok.mk ⟨QD hi (by omega),λk f N l u e m=>?_⟩;rcases Nat.lt_succ_iff_lt_or_eq.1 N with h | h
        · exact q k f h l u e m
        · subst h;exact g f l u e m
  · cases r with
    | inl _=>exact Ok.mk λ_=>g
    | inr b=>exact Ok.mk λh=>by rw[g] at h;cases h
def PG (x:Qc) (c:Nat->Nat) (k f:Nat) (v:Int):Prop:=(-2000000<=v/\v<=2000000)/\((fd x k f).Xi=1->∀u:Nat,upIx x k f=u->0<=v/\v<c u)
def RowG (x:Qc) (c:Nat->Nat) (k:Nat) (r:List Int):Prop:=r.length=nf x k/\∀f,f<nf x k->PG x c k f (r.getD f 0)
structure RIw (x:Qc) (c:Nat->Nat) (P:Nat->List Int->Prop) (k i:Nat) (W:Wd):Prop where
  len:W.length=x.Xa.length
  lo:∀k',k'<k->(g1 W k').length=c k'
  at':(g1 W k).length=i
  hi:∀k',k<k'->g1 W k'=[]
  good:∀k',∀r∈g1 W k',P k' r
def RIw.next {x:Qc} {c:Nat->Nat} {k:Nat} {W:Wd} (h:RIw x c P k (c k) W):RIw x c P (k+1) 0 W:=⟨h.len,λa b=>(Nat.lt_succ_iff_lt_or_eq.1 b).elim (h.lo a) λe=>e▸h.at',by rw[h.hi (k+1) (by omega)];rfl,λa b=>h.hi a (by omega),h.good⟩
def RIw.add {x:Qc} {c:Nat->Nat} {k:Nat} {W:Wd} (h:RIw x c P k i W) (m:k<x.Xa.length) (p:P k r):RIw x c P k (i+1) (W.set k (g1 W k++[r])):=by
  have e:∀a,g1 (W.set k (g1 W k++[r])) a=if a=k then g1 W k++[r] else g1 W a:=λa=>by
    unfold g1;rw[QmI];by_cases d:a=k
    · rw[Zc ⟨d,by rw[h.len];exact m⟩,Zc d]
    · rw[Zb (λe=>d e.1),Zb d]
  refine⟨by rw[ZH];exact h.len,λa g=>?_,?_,λa g=>?_,λa l b=>?_⟩
  · rw[e,Zb (by omega)];exact h.lo a g
  · rw[e,Zc rfl,Zf,h.at'];rfl
  · rw[e,Zb (by omega)];exact h.hi a g
  · rw[e] at b;by_cases d:a=k
    · rw[Zc d] at b;rcases ZB.1 b with j | j
      · rw[d];exact h.good k l j
      · rw[Zg.1 j,d];exact p
    · rw[Zb d] at b;exact h.good a l b
def RIw.start {x:Qc} {c:Nat->Nat} {n:Nat} (d:n=x.Xa.length):RIw x c P 0 0 (replicate n []):=by
  have e:∀a,g1 (replicate n ([]:List (List Int))) a=[]:=λa=>by unfold g1;rw[Zh,getElem?_replicate];split<;>rfl
  exact⟨by simp[d],λa g=>by omega,by rw[e];rfl,λa _=>e a,λa r b=>by rw[e] at b;cases b⟩
def raw_ok {x:Qc} (hx:Gx x) (T:Qbb x=[]) {p l:List Int} (hp:p.length=x.Xa.length) (h0:QcG x p) (C:FitC x (cN p) p.length) (hl:∀y∈l,I64 y):
    Ok (Qi3 x p l) (λW=>Sh x.Xa.length (cN p) (nf x) W/\∀k i,k<x.Xa.length->i<cN p k->RowG x (cN p) k (g2 W k i)):=by
  have A:=hx.short.few;have U:=A.1;unfold Qi3;rw[Qf6 _ _ (by omega)];dsimp only[Option.bind_some];refine Ok.bind (P:=λW=>RIw x (cN p) (RowG x (cN p)) p.length 0 W) (Ok.cnt p.length (λk s=>RIw x (cN p) (RowG x (cN p)) k 0 s.2) (RIw.start hp) (λk s j a=>?_) λs a=>by rw[QaE];exact Ok.mk a) λW K=>?_
  · rw[QaC j];obtain⟨n0,W0⟩:=s;dsimp only at a ⊢;have g:k<x.Xa.length:=by omega
    have E:=Qlr h0 j;have V:=(h0.2 k j).2;have F:=hx.kd g;refine Ok.bind (P:=λq:Int×Wd=>RIw x (cN p) (RowG x (cN p)) k (cN p k) q.2) (Ok.cnt (cN p k) (λi s=>RIw x (cN p) (RowG x (cN p)) k i s.2) a (λi s hi a=>?_) λs a=>?_) λq L=>Ok.mk ⟨QD j (by omega),L.next⟩
    · obtain⟨n1,W⟩:=s;dsimp only at a ⊢;rw[Qdb (d:=0) j,E];dsimp only[Option.bind_some];rw[QaC hi];refine Ok.bind (P:=λq:Int×List Int=>RowG x (cN p) k q.2) (Ok.cnt (kd x k).Xb.length (λf s=>s.2.length=f/\∀B,B<f->PG x (cN p) k B (s.2.getD B 0)) ⟨rfl,λB h=>by omega⟩ (λf s hf z=>?_) λs z=>?_) λq L=>?_
      · obtain⟨n2,r⟩:=s;obtain⟨r1,O⟩:=z;dsimp only at r1 O ⊢;have X:=hx.fd g hf;rw[Qbl g];dsimp only[Option.bind_some];rw[QaC hf,Qgf hf];dsimp only[Option.bind_some];have e1:i64.wrap ((fd x k f).Hi - (fd x k f).Lo)=(fd x k f).Hi - (fd x k f).Lo:=w64 (by omega) (by omega);have e2:imin ((fd x k f).Hi - (fd x k f).Lo) 1000<=1000/\-2000<=imin ((fd x k f).Hi - (fd x k f).Lo) 1000:=by unfold imin;split<;>omega
        rw[e1,w64 (n:=imin ((fd x k f).Hi - (fd x k f).Lo) 1000+6) (by omega) (by omega)];refine (QnP hl).bind λt ht=>?_;have Y:0<=t/\t<=1006:=by omega
        refine Ok.bind (P:=PG x (cN p) k f) (Ok.ite (λh=>?_) λh=>Ok.bind (P:=PG x (cN p) k f) (Ok.ite (λM=>?_) λM=>?_) λv m=>Ok.mk m) λv m=>?_
        · have H:(fd x k f).Xi=0:=by simpa using h
          rw[w64 (n:=(cN p k:Int)+3) (by omega) (by omega)];refine (QnP hl).bind λv m=>Ok.mk ⟨?_,λe=>by omega⟩;rw[w64 (n:=(fd x k f).Lo - 1) (by omega) (by omega),w64 (by omega) (by omega)];omega
        · have H:(fd x k f).Xi=1:=by simpa using M
          obtain⟨u,hu,N⟩:=Qql T g hf (.inl H);rw[Qiq A,hu];dsimp only[Option.bind_some];have Z:=C k f j hf u hu (by omega);rw[show idx W (u:Int)=some (g1 W u) from Qdb (by rw[a.len];omega)];dsimp only[Option.bind_some];rw[a.lo u N];have hm:imax 1 ((cN p u:Nat):Int)=(cN p u:Int):=by unfold imax;split<;>omega
          have Q:=(h0.2 u (by omega)).2;have R:=Qlr h0 (k:=u) (by omega);have a0:=hx.kd (k:=u) (by omega);rw[hm];refine (QnP hl).bind λv m=>Ok.mk ⟨by omega,λ_ u' a1=>?_⟩;have:u'=u:=by omega
          subst this;exact⟨m.1,m.2.1 (by omega)⟩
        · have H:(fd x k f).Xi≠1:=by simpa using M
          refine Ok.bind (P:=λ_=>True) (Ok.ite (λ_=>Ok.mk trivial) λ_=>Ok.mk trivial) λb _=>?_;refine Ok.bind (P:=PG x (cN p) k f) (Ok.ite (λ_=>?_) λ_=>?_) λv m=>Ok.mk m
          · exact (QnP hl).bind λv m=>Ok.mk ⟨by omega,λe=>absurd e H⟩
          · refine Ok.mk ⟨?_,λe=>absurd e H⟩;rw[w64 (n:=(fd x k f).Lo - 2) (by omega) (by omega),w64 (by omega) (by omega)];omega
        · have a2:f<9:=by unfold nf at F;omega
          refine Ok.rm (by simp;omega) (Ok.mk ⟨QD hf (by unfold nf at F;omega),by simp[r1],λB a3=>?_⟩);rw[Qlo];by_cases h:B<r.length
          · rw[Zc h];exact O B (by omega)
          · have:B=f:=by omega
            rw[Zb h,Zc (by omega),this];exact m
      · rw[Qbl g];dsimp only[Option.bind_some];rw[QaE];exact Ok.mk ⟨z.1,z.2⟩
      · rw[show idx W (k:Int)=some (g1 W k) from Qdb (by rw[a.len];omega)];dsimp only[Option.bind_some];refine Ok.rm (by rw[a.at'];omega) ?_;rw[QdQ (by rw[a.len];omega)];exact Ok.mk ⟨QD hi (by omega),a.add g L⟩
    · rw[Qdb (d:=0) j,E];dsimp only[Option.bind_some];rw[QaE];exact Ok.mk a
  · rw[hp] at K;have I:∀k,k<x.Xa.length->(g1 W k).length=cN p k:=K.lo;have S:∀k i,k<x.Xa.length->i<cN p k->RowG x (cN p) k (g2 W k i):=λk i j hi=>K.good k _ (Qju (by rw[I k j];exact hi));exact Ok.mk ⟨⟨K.len,I,λk i j hi=>(S k i j hi).1⟩,S⟩
structure MadeOk (x:Qc) (W:Wd) (q:List Int):Prop where
  gx:Gx x
  clean:Qbb x=[]
  old:∃c:Nat->Nat,Sh x.Xa.length c (nf x) W/\(∀k i,k<x.Xa.length->i<c k->RowG x c k (g2 W k i))/\∀k,k<x.Xa.length->c k<=60
  len:q.length=x.Xa.length
  win:QcG x q
def QBJ {l m k:List Int} (hl:∀y∈l,I64 y) (hm:∀y∈m,I64 y) (g:∀y∈k,I64 y):Ok (Qii l m k) (λr=>r.2.2.2=true->MadeOk r.1 r.2.1 r.2.2.1):=by
  unfold Qii;refine (QBH hl).bind λx hx=>(QoP hx hm).bind λp hp=>(QoP hx g).bind λq s=>?_;refine Ok.opt (P:=λb=>p.2=true/\q.2=true/\(b=true->FitC x (cN p.1) p.1.length)) (λh=>?_) λb hb=>?_
  · have a:p.2=true/\q.2=true:=by simpa using h
    obtain⟨_,a2,a3⟩:=hp a.1;exact (QwJ hx.short.few a2 a3).Xo λb hb=>⟨a.1,a.2,hb⟩
  · refine Ok.ite (λ_=>Ok.mk λh=>by cases h) λh=>?_;have a:((p.2=true/\q.2=true)/\b=true):=by simpa using h
    obtain⟨a1,a2,a3⟩:=hp a.1.1;obtain⟨_,t,v⟩:=s a.1.2;have d:=(hb (by simp[a.1.1,a.1.2])).2.2 a.2;refine (raw_ok hx a1 a2 a3 d hm).bind λW j=>Ok.mk λ_=>⟨hx,a1,⟨cN p.1,j.1,j.2,λk g=>?_⟩,t,v⟩;have e:k<p.1.length:=by rw[a2];exact g
    have:=(a3.2 k e).2;have:=Qlr a3 e;have:=hx.kd g;omega
def Qzp (l:List Int) (hl:l.length<=1000000):QbE l=some l:=by unfold QbE;rw[QdX (by simp;omega)];rfl
def QhN (s:List α) (p:α->Bool):Int:=match s.findIdx? p with | some k=>(k:Int) | none=>-1
def Qqn (s:List α) (f:α->Option Bool) (p:α->Bool) (hf:∀x∈s,f x=some (p x)) (hl:s.length<1000000000):
  (Qr (λ(b:Int)=>((if (decide (b<(s.length:Int)))=true then (idx s b).bind λt14=>(f t14).bind λt16=>(if t16=true then (some (.inr (.inr b))) else (some (.inl (i64.wrap (b+(1:Int)))))) else (some (.inr (.inl ())))):Option ((Int)⊕((Unit)⊕(Int))))) (0:Int)).bind (λ(q:(Unit)⊕(Int))=>(match q with | .inl _=>(some (-1:Int)) | .inr g=>(some g)))=some (QhN s p):=by
 have d:=Qk4 (body:=(λ(b:Int)=>((if (decide (b<(s.length:Int)))=true then (idx s b).bind λt14=>(f t14).bind λt16=>(if t16=true then (some (.inr (.inr b))) else (some (.inl (i64.wrap (b+(1:Int)))))) else (some (.inr (.inl ())))):Option ((Int)⊕((Unit)⊕(Int)))))) s.length (λk=>match s[k]? with | some x=>p x | none=>false) (.inl ()) (λk=>.inr (k:Int)) ?_ ?_ ?_
 ·rcases d with⟨k,a,hp,e,h⟩ | ⟨l,h⟩
  ·rw[h];simp only[Za];simp only[Zd a] at hp;have:s.findIdx? p=some k:=by
    rw[ZY];refine⟨a,hp,λj m=>?_⟩;have:=e j m;simp only[Zd (Nat.lt_trans m a)] at this;simp[this]
   unfold QhN;rw[this]
  ·rw[h];simp only[Za];have:s.findIdx? p=none:=by
    rw[findIdx?_eq_none_iff];intro x hx;obtain⟨k,a,rfl⟩:=Ys hx;have:=l k a;simpa only[Zd a] using this
   unfold QhN;rw[this]
 ·intro k a hp;simp only[Zd a] at hp;rw[Zc (by simpa using a),QY a];simp only[Za];rw[hf _ (Zo a),hp];simp only[Za];rw[Zb (by simp),QD a (by omega)]
 ·intro k a hp;simp only[Zd a] at hp;rw[Zc (by simpa using a),QY a];simp only[Za];rw[hf _ (Zo a),hp];rfl
 ·rw[Zb (by simp)]
def QoQ (s:List α) (p:α->Bool):decide (QhN s p>=0)=s.any p:=by
 unfold QhN
 cases h:s.findIdx? p with
 | none=>
  rw[findIdx?_eq_none_iff] at h;have:s.any p=false:=by rw[any_eq_false];intro x hx;simp[h x hx]
  rw[this];rfl
 | some k=>rw[ZY] at h;obtain⟨a,hp,_⟩:=h;have:s.any p=true:=Yl.2 ⟨_,Zo a,hp⟩;rw[this];simp
def Qg2 (s:List Int) (f:Int->Option Bool) (p:Int->Bool) (hf:∀x∈s,f x=some (p x)) (hl:s.length<1000000000):QaO s f=some (s.any p):=by unfold QaO;rw[show QbX s f=some (QhN s p) from Qqn s f p hf hl];simp only[Za,QoQ]
def Qm2 (s:List (List Int)) (f:List Int->Option Bool) (p:List Int->Bool) (hf:∀x∈s,f x=some (p x)) (hl:s.length<1000000000):Qbq s f=some (s.any p):=by unfold Qbq;rw[show QdW s f=some (QhN s p) from Qqn s f p hf hl];simp only[Za,QoQ]
def Qty (b:Int->Int->Int) (x:Int) (xs:List Int) (hl:xs.length<1000000000):
  Qr (λ(a:Int×Int)=>((if (decide (a.1<((x::xs).length:Int)))=true then (idx (x::xs) a.1).bind λt21=>(some (.inl ((i64.wrap (a.1+(1:Int))),(b a.2 t21)))) else (some (.inr a.2))):Option ((Int×Int)⊕((Int))))) ((1:Int),x)=some (xs.foldl b x):=by
 refine Qio xs.length (λk=>(((k+1:Nat):Int),(xs.take k).foldl b x)) _ ?_ ?_
 ·intro k d;have e:k+1<(x::xs).length:=by simpa using d
  simp only;rw[Zc (by simpa using d),QY e];simp only[Za,getElem_cons_succ];rw[QD (n:=xs.length+1) (by omega) (by omega),Zw d,foldl_append];rfl
 ·simp only;rw[Zb (by simp),take_length]
def max_eq (x:Int) (xs:List Int) (hl:xs.length<1000000000):Qeh (x::xs)=some (xs.foldl imax x):=by unfold Qeh;rw[Zb (by simp;omega),show idx (x::xs) (0:Int)=some x from rfl];simp only[Za];rw[Qty imax x xs hl];rfl
def min_eq (x:Int) (xs:List Int) (hl:xs.length<1000000000):Qei (x::xs)=some (xs.foldl imin x):=by unfold Qei;rw[Zb (by simp;omega),show idx (x::xs) (0:Int)=some x from rfl];simp only[Za];rw[Qty imin x xs hl];rfl
def best (a:Int->Int->Int) (d:Int) (l:List Int):Bool×Int:=l.foldl (λs y=>(true,if s.1=true then a s.2 y else y)) (false,d)
def Qls (a:Int->Int->Int) (d x:Int) (l:List Int):best a d (x::l)=(true,l.foldl a x):=by
 unfold best;simp only[foldl_cons,Yk,if_false]
 induction l generalizing x with
 | nil=>rfl
 | cons y l b=>simp only[foldl_cons,if_true];exact b (a x y)
def at2B (c:List (List Int)) (i k:Nat):Int:=(c.getD i []).getD k 0
structure Sq (m:Nat) (c:List (List Int)):Prop where
 len:c.length=m
 row:∀r∈c,r.length=m
def Sq.idx {m:Nat} {c:List (List Int)} (h:Sq m c) (hi:i<m):idx c (i:Int)=some (c.getD i [])/\(c.getD i []).length=m:=by
 have hl:i<c.length:=by rw[h.len];exact hi
 rw[QY hl,Zh,Zd hl];exact⟨rfl,h.row _ (Zo hl)⟩
def Sq.idx2 {m:Nat} {c:List (List Int)} (h:Sq m c) {k:Nat} (hi:i<m) (a:k<m):Sim.idx (c.getD i []) (k:Int)=some (at2B c i k):=by
 have hl:k<(c.getD i []).length:=by rw[(h.idx hi).2];exact a
 rw[QY hl];unfold at2B;rw[Zh (l:=c.getD i []),Zd hl];rfl
def set2 (c:List (List Int)) (i k:Nat) (v:Int):List (List Int):=c.set i ((c.getD i []).set k v)
def Sq.set {m:Nat} {c:List (List Int)} (h:Sq m c) {k:Nat} (hi:i<m) (v:Int):Sq m (set2 c i k v):=by
 refine⟨by simp[set2,h.len],λr a=>?_⟩;unfold set2 at a;rcases mem_or_eq_of_mem_set a with a | rfl
 ·exact h.row r a
 ·rw[ZH];exact (h.idx hi).2
def Sq.setRow {m:Nat} {c:List (List Int)} (h:Sq m c) {k:Nat} (hi:i<m) (a:k<m) (v:Int):setAt (c.getD i []) (k:Int) v=some ((c.getD i []).set k v)/\setAt c (i:Int) ((c.getD i []).set k v)=some (set2 c i k v):=⟨QdQ (by rw[(h.idx hi).2];exact a) v,QdQ (by rw[h.len];exact hi) _⟩
def Sq.ext {m:Nat} {c d:List (List Int)} (h:Sq m c) (k:Sq m d) (e:∀i j,i<m->j<m->at2B c i j=at2B d i j):c=d:=by
 apply ext_getElem
 ·rw[h.len,k.len]
 ·intro i a b;have hi:i<m:=by rw[<-h.len];exact a
  have r1:=h.row _ (Zo a);have g:=k.row _ (Zo b);apply ext_getElem
  ·rw[r1,g]
  ·intro j l p;have:=e i j hi (by omega);unfold at2B at this;simpa[Zh,a,b,l,p] using this
def QrW (l:Qm):Ok (Qij l) (λr=>r=0->l.Xe.length<=12/\l.Xg.length<=32/\∀m∈l.Xg,(0<=m.a0/\m.a0<l.Xe.length)/\(0<=m.a1/\m.a1<l.Xe.length)):=by unfold Qij;refine Ok.ite (λ_=>Ok.mk λh=>absurd h (by decide)) λh=>?_;simp only[Bool.or_eq_false_iff,ZI] at h;refine Ok.opt (P:=λb=>b=l.Xg.any λm=>decide (imin m.a0 m.a1<0)||decide (imax m.a0 m.a1>=l.Xe.length)) (λ_=>Ok.eq (Ql8 (by omega) λm _=>rfl) rfl) λb hb=>?_;refine Ok.ite (λ_=>Ok.mk λh=>absurd h (by decide)) λa=>Ok.mk λ_=>⟨by omega,by omega,λm hm=>?_⟩;rw[Bool.or_eq_false_iff] at a;have e:=hb (by rw[a.1];rfl);rw[a.2] at e;have:=any_eq_false.1 e.symm m hm;simp only[ZJ,Zs,not_or] at this;unfold imin imax at this;refine⟨?_,?_⟩<;>(split at this<;>omega)
def QBK {l:Qm} (h:l.Xg.length<=32) (s:Int):Ok (Qik l s) (λ_=>True):=by unfold Qik;refine Ok.bind (P:=λ_=>True) (Ok.cnt l.Xg.length (λi s=>s.length<=i) (by simp) (λi s hi b=>?_) λs _=>by rw[QaE];exact Ok.mk trivial) λr _=>Ok.mk trivial;rw[QaC hi,QY hi];dsimp only[Option.bind_some];refine Ok.bind (P:=λr:List Int=>r.length<=i+1) (Ok.ite (λ_=>Ok.rm (by simp;omega) (Ok.mk (by simp;omega))) λ_=>Ok.mk (by omega)) λr a=>Ok.mk ⟨QD hi (by omega),a⟩
def Qzq {m l:Int} {now g:Q6} {e:List Bool} (h:e.length<=12):Ok (QgX m now e l g) (λr=>r.1=true/\r.2.1.length=e.length/\r.2.2=g):=by
  unfold QgX;refine Ok.bind (P:=λr:List Bool=>r.length=e.length) (Ok.cnt e.length (λ_ s=>s.length=e.length) rfl (λi s hi j=>?_) λs j=>by rw[QaE];exact Ok.mk j) λr p=>Ok.mk ⟨rfl,p,rfl⟩;rw[QaC hi];dsimp only;refine Ok.idx (by omega) (by omega) λa _ _=>?_;refine Ok.opt (P:=λ_=>True) (λ_=>?_) λb _=>Ok.opt (P:=λ_=>True) (λ_=>?_) λd _=>?_
  · exact Ok.eq (QY (xs:=now.L) (show i<12 by omega)) trivial
  · exact Ok.eq (QY (xs:=g.L) (show i<12 by omega)) trivial
  · exact Ok.setAt (by omega) (by omega) (Ok.mk ⟨QD hi (by omega),by rw[ZH];exact j⟩)
def Qzr {l:Qm} {hi:Int} {d0:List Bool} {d1:Int} {d2:Q6} (q:hi<=1000) (v:l.Xe.length<=12) (hm:l.Xg.length<=32) (j:∀m∈l.Xg,(0<=m.a0/\m.a0<l.Xe.length)/\(0<=m.a1/\m.a1<l.Xe.length)) (h0:d0.length<=12):
    Ok (QfA l hi d0 d1 d2) (λr=>r.1.length=d0.length):=by
  unfold QfA;refine Ok.bind (P:=λr:List Bool×Q6=>r.1.length=d0.length) (Ok.loop (λk s=>0<=s.1/\s.1+k=1002/\s.2.1.length=d0.length) 1002 ⟨Zx _,by dsimp only;omega,rfl⟩ λk s p=>?_) λr g=>Ok.mk g;obtain⟨a1,a2,a3⟩:=p;refine Ok.opt (P:=λt=>t.1=true/\t.2.1.length=d0.length) (λh=>?_) λt ht=>?_
  · exact (Qzq (by rw[a3];exact h0)).Xo λr g=>⟨g.1,by rw[g.2.1];exact a3⟩
  · have d:(bif ((decide (s.1<=hi))==true) then t.2.1 else s.2.1).length=d0.length:=by
      cases h:((decide (s.1<=hi))==true) with
      | true=>exact (ht h).2
      | false=>exact a3
    refine Ok.ite (λh=>?_) λh=>Ok.mk d;rw[Zi,Zs] at h;refine Ok.bind (P:=λ_=>True) (Ok.cnt l.Xg.length (λ_ _=>True) trivial (λi y a _=>?_) λs _=>by rw[QaE];exact Ok.mk trivial) λr _=>Ok.mk ⟨k - 1,by omega,?_,?_,d⟩
    · rw[QaC a,QY a];dsimp only[Option.bind_some];have e:=j _ (Zo a);refine Ok.idx e.1.1 (by show l.Xg[i].a0<((12:Nat):Int);omega) λb _ _=>?_;refine Ok.bind (P:=λ_=>True) (Ok.ite (λ_=>?_) λ_=>Ok.mk trivial) λr _=>Ok.mk ⟨QD a (by omega),trivial⟩;exact Ok.idx e.2.1 (by show l.Xg[i].a1<((12:Nat):Int);omega) λb _ _=>Ok.mk trivial
    · dsimp only;rw[w64 (n:=s.1+1) (by omega) (by omega)];omega
    · dsimp only;rw[w64 (n:=s.1+1) (by omega) (by omega)];omega
def Qrx (l:Qm) (lo hi:Int):Ok (Qha l lo hi) (λr=>r.length<=12):=by
  unfold Qha;refine (QrW l).bind λr b=>Ok.ite (λ_=>Ok.mk (by simp)) λh=>?_;simp only[Bool.or_eq_false_iff,ZI] at h;obtain⟨v1,v2,v3⟩:=b (by simpa using h.1.1.1);refine Ok.bind (P:=λ_=>True) (Ok.cnt l.Xe.length (λ_ _=>True) trivial (λi s a _=>?_) λs _=>by rw[QaE];exact Ok.mk trivial) λr _=>?_
  · rw[QaC a];refine (QBK v2 _).bind λt _=>?_;rw[show idx s.L (i:Int)=some (s.L[i]'(show i<12 by omega)) from QY (show i<12 by omega)];exact Ok.mk ⟨QD a (by omega),trivial⟩
  · rw[Qf6 _ _ (by omega)];dsimp only[Option.bind_some];refine (Qzr (by omega) v1 v2 v3 (by simpa using v1)).bind λr b=>Ok.mk ?_;rw[b];simpa using v1
def QBL {l:List Bool} (h:l.length<=12):Ok (QhF l) (λr=>r.length<=12):=by unfold QhF;refine Ok.bind (P:=λr:List Int=>r.length<=12) (Ok.cnt l.length (λi s=>s.length<=i) (by simp) (λi s hi b=>?_) λs b=>by rw[QaE];exact Ok.mk (by dsimp only;omega)) λr a=>Ok.mk a;rw[QaC hi,QY hi];dsimp only[Option.bind_some];refine Ok.bind (P:=λr:List Int=>r.length<=i+1) (Ok.ite (λ_=>Ok.rm (by simp;omega) (Ok.mk (by simp;omega))) λ_=>Ok.mk (by omega)) λr a=>Ok.mk ⟨QD hi (by omega),a⟩
def Qup {l:List Int} (h:l.length<=1000) (v:Int):Ok (Qdy l v) (λ_=>True):=by unfold Qdy QfN;refine Ok.bind (P:=λ_=>True) (Ok.bind (P:=λ_=>True) (Ok.cnt0 l.length (λ_=>True) trivial (λi hi _=>?_) λ_=>by rw[QaE];exact Ok.mk trivial) λr _=>by cases r<;>exact Ok.mk trivial) λr _=>Ok.mk trivial;rw[QaC hi,QY hi];dsimp only[Option.bind_some];exact Ok.ite (λ_=>Ok.mk trivial) λ_=>Ok.mk ⟨QD hi (by omega),trivial⟩
def Qk8 {x:Qc} {k j:Int} (hx:Few x):QeP x k j=some (QkD x k j):=by
 unfold QeP QkD;rw[Qln]
 cases hf:field? x k j with
 | none=>rfl
 | some f=>obtain⟨_,a,_⟩:=QbT hf;simp only[Za,Bool.not_true];rw[Zb (by decide),Qro hx a];simp only[Za];exact QBp _ _ id
structure Old (x:Qc) (c:Nat->Nat) (W:Wd):Prop where
  gx:Gx x
  clean:Qbb x=[]
  sh:Sh x.Xa.length c (nf x) W
  row:∀k i,k<x.Xa.length->i<c k->RowG x c k (g2 W k i)
  le:∀k,k<x.Xa.length->c k<=60
section
variable {x:Qc} {c:Nat->Nat} {W:Wd}
def Old.few (h:Old x c W):Few x:=h.gx.short.few
def Old.kinds (h:Old x c W):x.Xa.length<=6:=(QdZ h.clean).kinds
def Old.nf (h:Old x c W) {k:Nat} (a:k<x.Xa.length):nf x k<=9:=(h.gx.kd a).1
def Old.ref (h:Old x c W) {k f u:Nat} (a:k<x.Xa.length) (hi:i<c k) (hf:f<Go.Proofs.YtmhcoofnnmiejaaGreatDoor.nf x k) (b:(fd x k f).Xi=1) (hu:upIx x k f=u):∃j:Nat,g3 W k i f=j/\j<c u:=by have:=((h.row k i a hi).2 f hf).2 b u hu;exact⟨(g3 W k i f).toNat,by unfold g3 at *;omega,by unfold g3 at *;omega⟩
def fd_idx' (k:Nat) {f:Nat} (hf:f<(kd x k).Xb.length):idx (kd x k).Xb (f:Int)=some (fd x k f):=Qgf hf
def Qk9 (x:Qc) (y:Qh):Prop:=∃k f u:Nat,y=⟨k,f,u⟩/\k<x.Xa.length/\f<nf x k/\(fd x k f).Xi=1/\upIx x k f=u/\u<k
def RefG (c:Nat->Nat) (y:Qh) (R:List (List Int)):Prop:=R.length=c y.to.toNat/\∀r∈R,r.length<=c y.kind.toNat/\∀a∈r,∃j:Nat,a=j/\j<c y.kind.toNat
structure CkOk (x:Qc) (c:Nat->Nat) (L:List Qh) (R:MpK Qh (List (List Int))):Prop where
  link:∀y∈L,Qk9 x y
  all:∀k f u:Nat,k<x.Xa.length->f<nf x k->(fd x k f).Xi=1->upIx x k f=u->Qh.mk k f u∈L
  refs:∀y∈L,∃l,QbF R y=some l/\RefG c y l
def QBM {S:Type} {Y:S->Int×Qm->Option (S⊕S)} {P:S->Prop} (g:∀s m,P s->Ok (Y s m) λo=>∃a,o=.inl a/\P a) {s:S} (j:P s) {l:List Qm} (hl:l.length<=1000):Ok (QcM Y s l) λo=>∃a,o=.inl a/\P a:=by unfold QcM;rw[w64 (n:=(l.length:Int) - 1) (by omega) (by omega)];refine Ok.loop (λk s=>s.1+1=k/\s.1<l.length/\P s.2) l.length ⟨by dsimp only;omega,by dsimp only;omega,j⟩ λk s p=>?_;obtain⟨i,s⟩:=s;obtain⟨q,e,b⟩:=p;dsimp only at q e b ⊢;refine Ok.ite (λh=>?_) λ_=>Ok.mk ⟨s,rfl,b⟩;have t:=Zt h;refine Ok.idx t e λv _ _=>(g s _ b).bind λo y=>?_;obtain⟨a,rfl,d⟩:=y;refine Ok.mk ⟨k - 1,by omega,?_⟩;rw[w64 (n:=i - 1) (by omega) (by omega)];exact⟨by dsimp only;omega,by dsimp only;omega,d⟩
def QmR {κ:Type} [DecidableEq κ] {m:MpK κ α} {l:List (κ×α)} (h:m=some l) (i:κ) (y:α):Qlj m i y=some (some (QjI l i y)):=by rw[h];rfl
def QwK {y:Qh} (hy:Qk9 x y) (d:x.Xa.length<=1000) (hf:∀k,k<x.Xa.length->nf x k<=1000):Qek y=some ():=by obtain⟨k,f,u,rfl,a,b,_,_,hu⟩:=hy;have:=hf k a;unfold Qek;rw[Zc];dsimp only;omega
def QBN (h:Old x c W) {k:Nat} (a:k<x.Xa.length) (b:r∈g1 W k):QcY r x k=some false:=by
  obtain⟨i,hi,rfl⟩:=mem_iff_getElem.1 b;have e:(g1 W k)[i]=g2 W k i:=by have:idx (g1 W k) (i:Int)=some (g2 W k i):=Qdb hi;rw[QY hi] at this;exact Zn this
  rw[h.sh.row k a] at hi;rw[e];obtain⟨hl,d⟩:=h.row k i a hi;unfold QcY;rw[Qbl a];dsimp only[Option.bind_some];have e1:(((g2 W k i).length:Int) !=((kd x k).Xb.length:Int))=false:=by rw[hl];unfold nf;simp
  have j:=h.nf a;rw[e1,Qg2 (g2 W k i) (λx0=>Qef x0) (λn=>decide (n< -1099511627776)||decide (n>1099511627776)) (λ_ _=>rfl) (by omega)];show some (false||(g2 W k i).any _)=_;have:(g2 W k i).any (λn=>decide (n< -1099511627776)||decide (n>1099511627776))=false:=by
    rw[any_eq_false];intro n g;obtain⟨f,hf,rfl⟩:=mem_iff_getElem.1 g;have e2:(g2 W k i)[f]=(g2 W k i).getD f 0:=by have:idx (g2 W k i) (f:Int)=some ((g2 W k i).getD f 0):=Qdb hf;rw[QY hf] at this;exact Zn this
    have:=(d f (by omega)).1;rw[e2];simp only[ZJ,Zs];omega
  rw[this];rfl
def QrX (h:Old x c W):Ok (Qew x W) (λr=>r.2=0/\∃L R V,r.1=some ⟨x,W,L,R,V,[]⟩/\CkOk x c L R/\L.length<=60):=by
  have a6:=h.kinds;unfold Qew;rw[QBw h.gx.short,h.clean];dsimp only[Option.bind_some];rw[Zb (by decide),Zb (by rw[h.sh.len];simp)];refine Ok.bind (P:=λL:List Qh=>L.length<=60/\(∀y∈L,Qk9 x y)/\∀k f u:Nat,k<x.Xa.length->f<nf x k->(fd x k f).Xi=1->upIx x k f=u->Qh.mk k f u∈L)
    (Ok.cnt x.Xa.length (λi L=>L.length<=i * 9/\(∀y∈L,Qk9 x y)/\∀k f u:Nat,k<i->f<nf x k->(fd x k f).Xi=1->upIx x k f=u->Qh.mk k f u∈L) ⟨by simp,λy hy=>(nomatch hy),λk f u d=>by omega⟩ (λk L d I=>?_) λL I=>by rw[QaE];exact Ok.mk ⟨by dsimp only;omega,I.2⟩) λL I=>?_
  · have h9:=h.nf d;rw[QaC d,Qbl d];dsimp only[Option.bind_some];refine Ok.bind (P:=λA:List Qh=>A.length<=(k+1) * 9/\(∀y∈A,Qk9 x y)/\(∀y∈L,y∈A)/\∀f u:Nat,f<nf x k->(fd x k f).Xi=1->upIx x k f=u->Qh.mk k f u∈A)
      (Ok.cnt (kd x k).Xb.length (λf A=>A.length<=k * 9+f/\(∀y∈A,Qk9 x y)/\(∀y∈L,y∈A)/\∀t u:Nat,t<f->(fd x k t).Xi=1->upIx x k t=u->Qh.mk k t u∈A) ⟨I.1,I.2.1,λy hy=>hy,λf u hf=>by omega⟩ (λf A hf g=>?_) λA g=>by rw[QaE];exact Ok.mk ⟨by have:=g.1;unfold nf at h9;dsimp only;omega,g.2.1,g.2.2.1,g.2.2.2⟩) λA g=>Ok.mk ⟨QD d (by omega),g.1,g.2.1,λk' f u p hf E hu=>?_⟩
    · unfold nf at h9;rw[QaC hf,fd_idx' k hf];dsimp only[Option.bind_some];obtain⟨l1,l2,l3,l4⟩:=g;refine Ok.bind (P:=λQ:List Qh=>Q.length<=k * 9+(f+1)/\(∀y∈Q,Qk9 x y)/\(∀y∈L,y∈Q)/\∀t u:Nat,t<f+1->(fd x k t).Xi=1->upIx x k t=u->Qh.mk k t u∈Q) (Ok.ite (λE=>?_) λE=>Ok.mk ⟨by omega,l2,l3,λt u K F hu=>?_⟩) λQ h2=>Ok.mk ⟨QD hf (by omega),h2⟩
      · have S:(fd x k f).Xi=1:=by simpa using E
        obtain⟨u,hu,M⟩:=Qql h.clean d hf (.inl S);rw[Qfa h.few,hu];dsimp only[Option.bind_some];refine Ok.rm (by simp;omega) (Ok.mk ⟨by simp;omega,λy hy=>?_,λy hy=>mem_append_left _ (l3 y hy),λt u' K F Y=>?_⟩)
        · rcases ZB.1 hy with hy | hy
          · exact l2 y hy
          · exact⟨k,f,u,Zg.1 hy,d,hf,S,hu,M⟩
        · rcases Nat.lt_succ_iff_lt_or_eq.1 K with q | q
          · exact mem_append_left _ (l4 t u' q F Y)
          · subst q;have:u'=u:=by omega
            subst this;exact mem_append_right _ (mem_singleton_self _)
      · rcases Nat.lt_succ_iff_lt_or_eq.1 K with q | q
        · exact l4 t u q F hu
        · subst q;rw[F] at E;cases E
    · rcases Nat.lt_succ_iff_lt_or_eq.1 p with q | q
      · exact g.2.2.1 _ (I.2.2 k' f u q hf E hu)
      · subst q;exact g.2.2.2 f u hf E hu
  · obtain⟨T,U,Z⟩:=I;refine Ok.bind (P:=λe:Unit⊕Int=>∃a,e=.inl a) (Ok.cnt0 W.length (λ_=>True) trivial (λk d _=>?_) λ_=>by rw[QaE];exact Ok.mk ⟨_,rfl⟩) λe X=>?_
    · have p:k<x.Xa.length:=by rw[<-h.sh.len];exact d
      have a0:=h.le k p;rw[QaC d,h.sh.i1 p];dsimp only[Option.bind_some];rw[h.sh.row k p];have e1:decide (((c k:Nat):Int)>512)=false:=by simp;omega
      rw[e1,Qm2 (g1 W k) (λx0=>QcY x0 x (k:Int)) (λ_=>false) (λr B=>QBN h p B) (by rw[h.sh.row k p];omega)];have e2:(g1 W k).any (λ_=>false)=false:=by simp
      rw[e2];exact Ok.mk ⟨QD d (by rw[h.sh.len];omega),trivial⟩
    · obtain⟨a,rfl⟩:=X;dsimp only;refine Ok.bind (P:=λe:MpK Qh (List (List Int))⊕Int=>∃R,e=.inl R/\CkOk x c L R)
        (Ok.cnt L.length (λi m=>(∃l,m=some l)/\∀j (C:j<L.length),j<i->∃l,QbF m L[j]=some l/\RefG c L[j] l) ⟨⟨_,rfl⟩,λj _ C=>by omega⟩ (λi m hi hm=>?_) λm hm=>?_) λe X=>?_
      · obtain⟨⟨ml,rfl⟩,hm⟩:=hm;have a1:=U _ (Zo hi);obtain⟨k,f,u,e,d,hf,E,hu,M⟩:=a1;have a0:=h.le k d;have a5:=h.le u (by omega);rw[QaC hi,QY hi];dsimp only[Option.bind_some];generalize hy:L[i]=y at e;subst e;dsimp only;rw[h.sh.i1 (show u<x.Xa.length by omega)];dsimp only[Option.bind_some];rw[h.sh.row u (by omega),Qf6 _ _ (by omega),h.sh.i1 d];dsimp only[Option.bind_some];refine Ok.bind (P:=λe:List (List Int)⊕Int=>∃R,e=.inl R/\RefG c ⟨k,f,u⟩ R)
          (Ok.cnt (g1 W k).length (λi R=>R.length=c u/\∀r∈R,r.length<=i/\∀a∈r,∃j:Nat,a=j/\j<i) ⟨by simp,λr B=>by rw[eq_of_mem_replicate B];simp⟩ (λj R C z=>?_) λR z=>?_) λe X=>?_
        · have N:j<c k:=by rw[h.sh.row k d] at C;exact C
          rw[QaC C,h.sh.i2 d N];dsimp only[Option.bind_some];rw[h.sh.i3 d N hf];dsimp only[Option.bind_some];obtain⟨v,hv,a2⟩:=h.ref d N hf E hu;rw[hv];have e1:decide ((v:Int)<0)=false:=by simp
          rw[e1];show Ok (if decide ((v:Int)>=(R.length:Int))=true then _ else _) _;rw[Zb (by rw[z.1];simp;omega)];have O:v<R.length:=by rw[z.1];exact a2
          rw[QY O];dsimp only[Option.bind_some];have a3:=z.2 _ (Zo O);refine Ok.rm (by simp;omega) ?_;rw[QdQ O];refine Ok.mk ⟨QD C (by rw[h.sh.row k d];omega),by rw[ZH];exact z.1,λr B=>?_⟩;have H:∀r:List Int,(r.length<=j/\∀a∈r,∃b:Nat,a=b/\b<j)->(r.length<=j+1/\∀a∈r,∃b:Nat,a=b/\b<j+1):=λr B=>⟨by omega,λa ha=>by obtain⟨b,e,hb⟩:=B.2 a ha;exact⟨b,e,by omega⟩⟩;rcases mem_or_eq_of_mem_set B with B | rfl
          · exact H r (z.2 r B)
          · refine⟨by simp;omega,λa ha=>?_⟩;rcases ZB.1 ha with ha | ha
            · exact (H _ a3).2 a ha
            · exact⟨j,Zg.1 ha,by omega⟩
        · rw[QaE];exact Ok.mk ⟨R,rfl,z.1,λr B=>⟨by have:=(z.2 r B).1;rw[h.sh.row k d] at this;exact this,λa ha=>by obtain⟨b,e,hb⟩:=(z.2 r B).2 a ha;exact⟨b,e,by rw[h.sh.row k d] at hb;exact hb⟩⟩⟩
        · obtain⟨R,rfl,z⟩:=X;dsimp only;rw[QmR rfl,QwK ⟨k,f,u,rfl,d,hf,E,hu,M⟩ (by omega) (λk d=>by have:=h.nf d;omega)];refine Ok.mk ⟨QD hi (by omega),⟨_,rfl⟩,λj C a4=>?_⟩;show ∃l,Qc5 (QjI ml _ R) L[j]=some l/\_;rw[QdT];by_cases e:L[j]=⟨k,f,u⟩
          · rw[Zc e];exact⟨R,rfl,by rw[e];exact z⟩
          · rw[Zb e];rcases Nat.lt_succ_iff_lt_or_eq.1 a4 with q | q
            · exact hm j C q
            · subst q;exact (e hy).elim
      · rw[QaE];refine Ok.mk ⟨m,rfl,U,Z,λy hy=>?_⟩;obtain⟨j,C,rfl⟩:=mem_iff_getElem.1 hy;exact hm.2 j C C
      · obtain⟨R,rfl,z⟩:=X;dsimp only;refine (QBM (P:=λm:MpK Str Qm=>∃l,m=some l) (λs m hs=>?_) ⟨_,rfl⟩ (l:=x.Xd) h.gx.short.lives).bind λo ho=>?_
        · obtain⟨l,rfl⟩:=hs;rw[QmR rfl];exact Ok.mk ⟨_,rfl,_,rfl⟩
        · obtain⟨V,rfl,_⟩:=ho;exact Ok.mk ⟨rfl,L,R,V,rfl,z,T⟩
end

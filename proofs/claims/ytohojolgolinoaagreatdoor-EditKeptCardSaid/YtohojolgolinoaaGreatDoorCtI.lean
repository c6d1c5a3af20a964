/- CountsLimits. No condition. -/
import Derived.Test.YtohojolgolinoaaGreatDoorTyY
import Derived.Test.YtohojolgolinoaaGreatDoorEvalA
set_option linter.all false
open List Go.IntKind
namespace Go.Proofs.YtohojolgolinoaaGreatDoor
open Go.Sim
variable {α:Type} {i:Nat} {R:Nat->α} {j:Nat} {B:Int} {w:Lz} {v:Int} {r:Lz} {P:Nat->Lz->Prop} {H:Nat->Nat->Int} {U:Int} {ph:Nat->(Nat->Nat->Int)->Nat->Nat->Int} {D:List Bool} {T:Nat->Int} {x:Qc} {c:Nat->Nat} {W:Wd}
def Sp {a b:Type} (n:Nat) (g:Nat->List a) (h:Nat->List b) (B:Nat) (l:∀k,k<n->(g k).length<=B/\(h k).length<=B) (a0:List a) (d:List b) {body:Int×List a×List b->Option ((Int×List a×List b)⊕(List a×List b))}
  (s:∀k,k<n->∀(p:List a) (q:List b),p.length<=a0.length+k * B->q.length<=d.length+k * B->body ((k:Int),p,q)=some (.inl (((k+1:Nat):Int),p++g k,q++ h k))) (t:∀p q,body ((n:Int),p,q)=some (.inr (p,q))):
  Qr body ((0:Int),a0,d)=some (a0++(range n).flatMap g,d++(range n).flatMap h):=by
 have hlen:∀m,m<=n->((range m).flatMap g).length<=m * B/\((range m).flatMap h).length<=m * B:=λm hm=>⟨DR m g B λk e=>(l k om).1,DR m h B λk e=>(l k om).2⟩;have key:=IY (body:=body) n (λm=>((m:Int),a0++(range m).flatMap g,d++(range m).flatMap h)) (a0++(range n).flatMap g,d++(range n).flatMap h) (λk e=>?_) ?_
 ·simpa using key
 ·have:=hlen k om;rw[s k e _ _ (by rw[Ze];omega) (by rw[Ze];omega),Ym,ZM,ZM];simp
 ·rw[t]
def leastT:Str:=[32,108,101,97,115,116]
def mostT:Str:=[32,109,111,115,116]
section
variable {τ:Type} (mk:Int->Int->Int->Bool->τ)
def Ez (i j lo hi:Int):List τ:=[mk i j lo true,mk i j hi false]
def fldL (x:Qc) (i:Nat) (q:QA) (j:Nat):List τ:=match q.Xb[j]? with | some f=>if f.Xi==1 then Ez mk (i:Int) (Q3 x f.Of) f.Lo f.Hi else [] | none=>[]
def kndL (x:Qc) (i:Nat):List τ:=match x.Xa[i]? with | some q=>Ez mk (i:Int) (-1) q.Lo q.Hi++(range q.Xb.length).flatMap (fldL mk x i q) | none=>[]
def limL (x:Qc):List τ:=(range x.Xa.length).flatMap (kndL mk x)
end
def HX (s:Str):List Str:=[s++leastT,s++mostT]
def fldN (q:QA) (j:Nat):List Str:=match q.Xb[j]? with | some f=>if f.Xi==1 then HX ((q.Xj++[46])++f.Xj) else [] | none=>[]
def kndN (x:Qc) (i:Nat):List Str:=match x.Xa[i]? with | some q=>HX q.Xj++(range q.Xb.length).flatMap (fldN q) | none=>[]
def namL (x:Qc):List Str:=(range x.Xa.length).flatMap (kndN x)
def OZ {τ:Type} (mk:Int->Int->Int->Bool->τ) (x:Qc) (i:Nat) (q:QA) (j:Nat):(fldL mk x i q j).length<=2/\(fldN q j).length<=2:=by
 unfold fldL fldN
 cases q.Xb[j]? with
 | none=>simp
 | some f=>dsimp only;constructor<;>split<;>simp[Ez,HX]
def OQ {τ:Type} (mk:Int->Int->Int->Bool->τ) {x:Qc} (a:HY x) (i:Nat):(kndL mk x i).length<=22/\(kndN x i).length<=22:=by
 unfold kndL kndN
 cases b:x.Xa[i]? with
 | none=>simp
 | some q=>have hf:=(Cz (a.kind q (Zo b))).2.1;have d:=DR q.Xb.length (fldL mk x i q) 2 λj _=>(OZ mk x i q j).1;have e:=DR q.Xb.length (fldN q) 2 λj _=>(OZ mk x i q j).2;simp only[Ze,Ez,HX,Zj,Zm];omega
def aI {x:Qc} {p:QI} (h:p∈AN x):p.Code≠0:=by
 have hp:∀{k j r e:Int},p∈prob k j r e->p.Code≠0:=λ{k j r e} h=>by
  unfold prob at h;split at h
  ·cases h
  ·rw[Zi.1 h];assumption
 unfold AN at h;split at h
 ·simp only[ZH] at h;rcases h with (h | h) | h
  ·have⟨i,_,h⟩:=Ya.1 h;unfold C2 at h;split at h
   ·exact hp h
   ·cases h
  ·have⟨i,_,h⟩:=Ya.1 h;unfold Cf at h;split at h
   ·rcases ZH.1 h with h | h
    ·exact hp h
    ·have⟨j,_,h⟩:=Ya.1 h;unfold De at h;split at h
     ·exact hp h
     ·cases h
   ·cases h
  ·have⟨i,_,h⟩:=Ya.1 h;unfold EH at h;split at h
   ·exact hp h
   ·cases h
 ·rw[Zi.1 h];assumption
def Ce {x:Qc} (h:AN x=[]):HY x:=by
 unfold AN at h;by_cases a:CT x=0
 ·unfold CT at a;by_cases b:CU x=true
  ·exact HZ b
  ·rw[Zb b] at a;cases a
 ·rw[Zb a] at h;cases h
def aJ {q:QA} (h:BI q=true):q.Xj.length<=12:=by simp only[BI,Zh] at h;exact CM h.1.1.1
def aK {f:Qe} (h:AH f=true):f.Xj.length<=12:=by simp only[AH,Zh] at h;exact CM h.1.1
def HQ {n:Nat} (h:n<=1000000):cat n=some ():=by unfold cat;rw[Zc om]
noncomputable def limR {τ:Type} (mk:Int->Int->Int->Bool->τ) (x:Qc):List τ×List Str×Int:=match AN x with | []=>(limL mk x,namL x,0) | p::_=>([],[],p.Code)
def aL {x:Qc} (h:IZ x):Ki x=some (limR QK.mk x):=by
 unfold Ki limR;rw[aM h];simp only[Za]
 cases hc:AN x with
 | cons p l=>rw[Zc sm];rfl
 | nil=>
  have b:=Ce hc;have F:=b.kinds;rw[Zb sm];refine (ZU (Option.bind · _) (Sp x.Xa.length (kndN x) (kndL QK.mk x) 22 (λi _=>⟨(OQ QK.mk b i).2,(OQ QK.mk b i).1⟩) [] [] (λi hi p q hp s=>?_) (λp q=>by rw[Zb sm]))).trans ?_
  ·simp only[Zm,Nat.zero_add] at hp s;have t:i * 22<=132:=by omega
   rw[Zc (sa hi),QY hi];have d:=b.kind _ (Zr hi);have m:=(Cz d).2.1;have y:=aJ d;simp only[Za];rw[CK so,HQ so,HQ so,CK so];simp only[Za];rw[Sp x.Xa[i].Xb.length (fldL QK.mk x i x.Xa[i]) (fldN x.Xa[i]) 2 (λj _=>OZ _ _ _ _ _) _ _ (λj a z A e g=>?_) (λz A=>by rw[Zb sm])]
   ·simp only[Za];have e1:kndL QK.mk x i=Ez QK.mk (i:Int) (-1) x.Xa[i].Lo x.Xa[i].Hi++(range x.Xa[i].Xb.length).flatMap (fldL QK.mk x i x.Xa[i]):=by unfold kndL;rw[Zd hi]
    have e2:kndN x i=HX x.Xa[i].Xj++(range x.Xa[i].Xb.length).flatMap (fldN x.Xa[i]):=by unfold kndN;rw[Zd hi]
    rw[e1,e2,QD hi om,ZJ,ZJ];rfl
   ·simp only[Ze,Zj,Zm] at e g;have C:=aK ((Cz d).2.2 _ (Zr a));rw[Zc (sa a),QY a];simp only[Za];have e1:fldL QK.mk x i x.Xa[i] j=if x.Xa[i].Xb[j].Xi==1 then Ez QK.mk (i:Int) (Q3 x x.Xa[i].Xb[j].Of) x.Xa[i].Xb[j].Lo x.Xa[i].Xb[j].Hi else []:=by unfold fldL;rw[Zd a]
    have e2:fldN x.Xa[i] j=if x.Xa[i].Xb[j].Xi==1 then HX ((x.Xa[i].Xj++[46])++x.Xa[i].Xb[j].Xj) else []:=by unfold fldN;rw[Zd a]
    rw[e1,e2,QD a om]
    cases (x.Xa[i].Xb[j].Xi==1) with
    | false=>simp
    | true=>rw[Zc rfl,Zc rfl,Zc rfl,Ha om];simp only[Za];rw[CK so,HQ so,HQ so,HQ so,HQ so,CK so];rfl
  ·rfl
def kd (x:Qc) (k:Nat):QA:=x.Xa.getD k default
def nf (x:Qc) (k:Nat):Nat:=(kd x k).Xb.length
def fd (x:Qc) (k f:Nat):Qe:=(kd x k).Xb.getD f Ar
section
variable {k f:Nat}
def AQ (a:k<x.Xa.length):idx x.Xa (k:Int)=some (kd x k):=Ai a
def C0 (hf:f<nf x k):idx (kd x k).Xb (f:Int)=some (fd x k f):=Ai hf
def Hb (a:k<x.Xa.length) (hf:f<nf x k):field? x (k:Int) (f:Int)=some (fd x k f):=E0 om om (AQ a) (C0 hf)
def Kj {b:Int} {g:Qe} (h:field? x (k:Int) b=some g):∃j:Nat,b=j/\j<nf x k/\g=fd x k j:=by
  have⟨q,m,l,a,d,_,p,s⟩:=Cg h;obtain⟨j,rfl⟩:=ZB l;rw[AQ om] at a;cases a;have e:j<nf x k:=by unfold nf;omega
  refine⟨j,rfl,e,?_⟩;rw[C0 e] at d;exact (Zn d).symm
def Ev (hf:f<nf x k):fd x k f∈(kd x k).Xb:=Dr hf
def Cq (a:k<x.Xa.length):kd x k∈x.Xa:=Dr a
def Kk (a:k<x.Xa.length):x.Xa[k]?=some (kd x k):=by
  have:=AQ a
  rwa [BN] at this
def Kl (hf:f<nf x k):(kd x k).Xb[f]?=some (fd x k f):=by
  have:=C0 hf
  rwa [BN] at this
def aN {s:List α} {p:α->Bool} (h:0<=AV s p):∃g:Nat,AV s p=g/\∃h:g<s.length,p s[g]=true:=by
  unfold AV at h ⊢
  cases e:s.findIdx? p with
  | none=>rw[e] at h;exact absurd h dc
  | some g=>have⟨a,b,_⟩:=ZZ.1 e;exact⟨g,rfl,a,b⟩
def aO {s:List α} {p:α->Bool} {g:Nat} (a:g<s.length) (hp:p s[g]=true):∃g':Nat,AV s p=g'/\g'<=g:=by
  unfold AV
  cases e:s.findIdx? p with
  | none=>have:=findIdx?_eq_none_iff.1 e _ (Zr a);rw[hp] at this;cases this
  | some g'=>
    have⟨d,l,b⟩:=ZZ.1 e;refine⟨g',rfl,?_⟩;rcases Nat.lt_or_ge g g' with h | h
    · exact absurd hp (b g h)
    · exact h
def Sr {n:Str} (h:0<=AD (kd x k) n):∃g:Nat,AD (kd x k) n=g/\g<nf x k/\(fd x k g).Xj=n:=by have⟨g,e,a,hp⟩:=aN h;refine⟨g,e,a,?_⟩;have:=Kl (x:=x) (k:=k) (f:=g) a;rw[Zd a] at this;rw[<-Zn this];simpa using hp
def Oa (hc:AN x=[]):DF x=[]/\IQ x=[]/\CT x=0:=by
  unfold AN at hc;split at hc
  · simp only[append_eq_nil_iff] at hc;exact⟨hc.1.2,hc.2,by assumption⟩
  · cases hc
def Ss (hc:AN x=[]) (g:k<x.Xa.length):kindE x (k:Int) (kd x k)=0/\∀j,j<nf x k->FW x (kd x k) (k:Int) (j:Int) (fd x k j)=0:=by have b:=(Oa hc).1;unfold DF at b;rw[flatMap_eq_nil_iff] at b;have a:=b k (Yd.2 g);unfold Cf at a;rw[Kk g] at a;dsimp only at a;rw[append_eq_nil_iff] at a;refine⟨Km a.1,λj h=>?_⟩;have d:=a.2;unfold GG at d;rw[flatMap_eq_nil_iff] at d;have e:=d j (Yd.2 h);unfold De at e;rw[Kl h] at e;exact Km e
def GH (hc:AN x=[]) (a:k<x.Xa.length) (hf:f<nf x k):Be x (kd x k) (k:Int) (f:Int) (fd x k f)=0:=clean hc (AQ a) (Hb a hf)
def Sm (hc:AN x=[]) (b:k<x.Xa.length) (hf:f<nf x k):AD (kd x k) (fd x k f).Xj=f:=by
  have h:=(Ss hc b).2 f hf;unfold FW at h;split at h
  · cases h
  · rename_i d;have a:=Kl (x:=x) (k:=k) (f:=f) hf;rw[Zd hf] at a;have⟨g,e,hl⟩:=aO (s:=(kd x k).Xb) (p:=λy=>y.Xj==(fd x k f).Xj) (g:=f) hf (by rw[Zn a];simp);have e':AD (kd x k) (fd x k f).Xj=g:=e;omega
def HW (hc:AN x=[]) (d:k<x.Xa.length):0<nf x k/\(fd x k 0).Xi=0:=by
  have h:=(Ss hc d).1;unfold kindE at h;have⟨_,h⟩:=CN h dc;have⟨h,_⟩:=CN h dc;rw[Bool.or_eq_false_iff] at h;have⟨a,b⟩:=h;have g:nf x k≠0:=by intro e;unfold nf at e;rw[e] at a;cases a
  refine⟨om,?_⟩;have e:(kd x k).Xb.headD Ar=fd x k 0:=by unfold fd;cases (kd x k).Xb<;>rfl
  rw[e] at b;simpa using b
def HU (hc:AN x=[]) (d:k<x.Xa.length) (hf:f<nf x k) (m:(fd x k f).Xi=4) (p:(fd x k f).Of≠[]):∃g:Nat,AD (kd x k) (fd x k f).Of=g/\g<f/\(fd x k g).Xi=4/\(fd x k g).Xj=(fd x k f).Of:=by
  have h:=GH hc d hf;unfold Be at h;rw[Zb om,Zb om,Zc m] at h;have⟨h,_⟩:=CN h dc;have a:((fd x k f).Of !=[])=true:=by simpa using p
  rw[a,Bool.true_and,Bool.or_eq_false_iff,Bool.or_eq_false_iff] at h;have⟨⟨q,l⟩,b⟩:=h;have⟨g,e,s,t⟩:=Sr (x:=x) (k:=k) (n:=(fd x k f).Of) (sa q);rw[e] at l b;rw[Hb d s] at b;exact⟨g,e,by simpa using l,by simpa using b,t⟩
def Hc (hc:AN x=[]) (a:k<x.Xa.length) (hf:f<nf x k) (h:(fd x k f).Xi=1\/(fd x k f).Xi=7\/(fd x k f).Xi=8):∃u:Nat,upIx x (k:Int) (f:Int)=u/\u<k:=by have b:=aR (GH hc a hf) h;have d:=(Kn x (k:Int) (f:Int) om).1;exact⟨(upIx x (k:Int) (f:Int)).toNat,om,om⟩
def EI (hc:AN x=[]) (b:k<x.Xa.length) (hf:f<nf x k) (h:(fd x k f).Xi=7\/(fd x k f).Xi=8):∃g u:Nat,AD (kd x k) (fd x k f).Up=g/\g<nf x k/\(fd x k g).Xi=1/\upIx x (k:Int) (g:Int)=u/\upIx x (k:Int) (f:Int)=u/\u<k:=by
  have⟨u,hu,d⟩:=Hc hc b hf (.inr h);have a:=hu;unfold upIx at a;rw[Hb b hf,AQ b] at a;dsimp only at a;rw[Zc h] at a;split at a
  · split at a
    · rename_i g p;split at a
      · rename_i l;obtain⟨j,e,m,rfl⟩:=Kj p;refine⟨j,u,e,m,l,?_,hu,d⟩;unfold upIx;rw[Hb b m];dsimp only;rw[Zb om,Zc l];exact a
      · omega
    · omega
  · omega
def aS (hc:AN x=[]) (b:k<x.Xa.length) (hf:f<nf x k) (d:(fd x k f).Xi=8) {u:Nat} (hu:upIx x (k:Int) (f:Int)=u) (l:u<k):∃g:Nat,AD (kd x u) (fd x k f).Of=g/\g<nf x u:=by
  have h:=GH hc b hf;unfold Be at h;rw[Zb om,Zb om,Zb om,Zb om,Zb om,Zb om,Zc d] at h;have⟨_,h⟩:=CN h dc;have⟨h,_⟩:=CN h dc;rw[Bool.or_eq_false_iff] at h;have a:=h.1;unfold topS at a;rw[hu,Zb om,AQ om] at a;dsimp only at a
  cases e:field? x (u:Int) (AD (kd x u) (fd x k f).Of) with
  | none=>rw[e] at a;cases a
  | some g=>have⟨j,e1,m,_⟩:=Kj e;exact⟨j,e1,m⟩
def GI (hc:AN x=[]) (h:k<x.Xa.length) (hf:f<nf x k) (m:(fd x k f).Xi=6):∃o a:Nat,Du x (k:Int) (f:Int)=((o:Int),(a:Int))/\k<o/\o<x.Xa.length/\a<nf x o/\(fd x o a).Xi=7/\upIx x (o:Int) (a:Int)=k:=by
  have⟨o,a,e,q,p⟩:=aT (Hb h hf) (GH hc h hf) m;have e':=e;unfold Du at e';rw[Hb h hf] at e';dsimp only at e';split at e'
  · rename_i b hb;simp only[Yf] at e';obtain⟨e1,rfl⟩:=e';unfold B9 at e1 hb;split at e1
    · omega
    · rename_i d;rw[Zb d] at hb;dsimp only at e1 hb;have hl:=(FX x (fd x k f).Of).2;rw[e1] at hb hl;obtain⟨o',rfl⟩:=ZB (show 0<=o by omega);unfold shl at hb;rw[AQ om] at hb;dsimp only at hb;have hm:b∈((range (kd x o').Xb.length).filter (DG x (o':Int) (k:Int) (fd x k f).Xj (kd x o').Xb)).map Int.ofNat:=by rw[hb];exact mem_singleton_self _
      obtain⟨n,l,rfl⟩:=ZR.1 hm;have⟨l,hp⟩:=Yn.1 l;have g:n<nf x o':=Yd.1 l;unfold DG at hp;rw[Kl g] at hp;simp only[Zh,Yj] at hp;exact⟨o',n,e,om,om,g,hp.1.1,hp.2⟩
  · simp only[Yf] at e';omega
def aU (hc:AN x=[]) (a:k<x.Xa.length) (hf:f<nf x k) (b:(fd x k f).Xi=5):(x.Xd.any λl=>l.Xj==(fd x k f).Of)=true:=by have h:=GH hc a hf;unfold Be at h;rw[Zb om,Zb om,Zb om,Zc b] at h;have⟨h,_⟩:=CN h dc;simpa using h
def Kd (hc:AN x=[]) {r:QL} (C:r∈x.Xc):∃k:Nat,Q3 x r.Xi=k/\k<x.Xa.length/\r.A≠r.B/\∀n,n=r.A\/n=r.B->n≠[]->∃g:Nat,AD (kd x k) n=g/\g<nf x k/\((fd x k g).Xi=2\/(fd x k g).Xi=4)/\(fd x k g).Xj=n:=by
  have p:=(Oa hc).2.1;unfold IQ at p;rw[flatMap_eq_nil_iff] at p;obtain⟨i,hi,rfl⟩:=mem_iff_getElem.1 C;have q:=p i (Yd.2 hi);unfold EH at q;rw[Zd hi] at q;have d:=Km q;generalize x.Xc[i]=r at d ⊢;unfold E1 at d;have⟨_,d⟩:=CN d dc;have⟨hm,d⟩:=CN d dc;have⟨s,d⟩:=CN d dc;have⟨t,_⟩:=CN d dc;rw[Bool.or_eq_false_iff,Bool.or_eq_false_iff] at hm;rw[Bool.or_eq_false_iff] at s;have l:0<=Q3 x r.Xi:=by simpa using hm.1.1
  have F:=(FX x r.Xi).2;have⟨k,I⟩:=ZB l;have m:Q3 x r.Xi=(k:Int):=I;refine⟨k,m,om,by simpa using t,λn z hne=>?_⟩;have b:A7 x (Q3 x r.Xi) n=false:=z.elim (λe=>e▸hm.1.2) (λe=>e▸hm.2);have a:BP x (Q3 x r.Xi) n=false:=z.elim (λe=>e▸s.1) (λe=>e▸s.2);have c:((n==[])||decide (Q3 x r.Xi<0))=false:=by rw[Bool.or_eq_false_iff];exact⟨by simpa using hne,by simpa using l⟩
  unfold A7 at b;unfold BP at a;rw[c,Bool.not_false,Bool.true_and] at b a;rw[m] at b a;unfold ruleAt at b a;rw[AQ om] at b a;dsimp only at b a
  cases e:field? x (k:Int) (AD (kd x k) n) with
  | none=>rw[e] at b;cases b
  | some g=>
    rw[e] at a;obtain⟨j,e1,K,rfl⟩:=Kj e;have⟨A,e2,_,y⟩:=Sr (x:=x) (k:=k) (n:=n) om;have:A=j:=by omega
    subst this;refine⟨A,e1,K,?_,y⟩;dsimp only at a;rw[Bool.and_eq_false_iff] at a;rcases a with h | h
    · exact .inl (sa h)
    · exact .inr (sa h)
end
def aV {n:Int} (h:-9999999<=n/\n<=9999999):(Lib.itoa n).length<=8:=by
 unfold Lib.itoa;split
 ·have:=GJ 6 n.natAbs om;rw[Zj];omega
 ·have:=GJ 6 n.toNat om;omega
def VT:AnyV->Prop
 | .int n=>-9999999<=n/\n<=9999999
 | .str s=>s.length<=12
def text_t {v:AnyV} (h:VT v):(BR v).length<=12:=by
 cases v with
 | int n=>have:=aV h;show (Lib.itoa n).length<=12;omega
 | str s=>exact h
def toks_t {l:List AnyV} (h:∀v∈l,VT v):(toks l).length<=l.length * 13:=by
 induction l with
 | nil=>simp[toks]
 | cons v l a=>have b:=a λu hu=>h u (ZE _ hu);have d:=text_t (h v Zs);have e:toks (v::l)=(32::BR v)++toks l:=rfl;rw[e,Ze,Zj,Zj];omega
def Hd {w:Str} {l:List AnyV} (h:∀v∈l,VT v):(Bp w l).length<=w.length+1+l.length * 13:=by have:=toks_t h;unfold Bp;rw[Ze,Ze,length_singleton];omega
def DS {s:Str} (h:QX s=true):VT (.str s):=CM h
def Ia {s:Str} (h:((s==[])||QX s)=true):VT (.str (Aa s)):=by
 unfold Aa;by_cases a:s=[]
 ·rw[Zc a];show ([45]:Str).length<=12;decide
 ·rw[Zb a];have:QX s=true:=by simpa[a] using h
  exact DS this
def Br {n:Int} (h:-9999999<=n/\n<=9999999):VT (.int n):=h
def aW {f:Qe} (h:AH f=true) (I:f.Words.length<=3):(∀v∈AP f,VT v)/\(AP f).length<=8:=by
 unfold AH at h;simp only[Zh] at h;have⟨⟨K,_⟩,hp⟩:=h;have d:=DS K;unfold Av at hp;by_cases l:f.Xi=0
 ·rw[Zc l] at hp;have e:AP f=[.str f.Xj,.int f.Lo]:=by unfold AP;rw[Zc l]
  refine⟨?_,by rw[e];simp⟩;have:=Aq hp;rw[e];simp only[Zp,ZF,ZN,ZL,forall_eq];exact⟨d,Br om⟩
 rw[Zb l] at hp;by_cases m:f.Xi=1
 ·rw[Zc m] at hp;simp only[Zh] at hp;have e:AP f=[.str f.Xj,.str (Aa f.Of),.int f.Lo,.int f.Hi]:=by unfold AP;simp[m]
  have:=BS hp.2;refine⟨?_,by rw[e];simp⟩;rw[e];simp only[Zp,ZF,ZN,ZL,forall_eq];exact⟨d,Ia (by rw[hp.1];simp),Br om,Br om⟩
 rw[Zb m] at hp;by_cases q:f.Xi=2
 ·rw[Zc q] at hp;have e:AP f=[.str f.Xj,.int f.Lo,.int f.Hi]:=by unfold AP;simp[q]
  have:=BS hp;refine⟨?_,by rw[e];simp⟩;rw[e];simp only[Zp,ZF,ZN,ZL,forall_eq];exact⟨d,Br om,Br om⟩
 rw[Zb q] at hp;by_cases s:f.Xi=3
 ·rw[Zc s] at hp;simp only[DT,Zh,ZD,Yj] at hp;have⟨M,⟨⟨N,hl⟩,_⟩,t⟩:=hp;have O:=(Aq N).2;have Q:f.Words.length=f.Xf.length:=by omega
  have e:AP f=[.str f.Xj,.int (f.Words.length:Int)]++(f.Words.zip f.Xf).flatMap λp=>[.str p.1,.int p.2]:=by unfold AP;simp[s]
  refine⟨?_,?_⟩
  ·rw[e];intro v g;rcases ZH.1 g with g | g
   ·simp only[Zp,ZF,ZN] at g;rcases g with rfl | rfl
    ·exact d
    ·exact Br om
   ·have⟨p,hp,g⟩:=Ya.1 g;have⟨a,b⟩:=p;have hz:=of_mem_zip hp;simp only[Zp,ZF,ZN] at g;rcases g with rfl | rfl
    ·exact DS (t _ hz.1)
    ·have:=Aq (M _ hz.2);exact Br om
  ·rw[e,Ze,Ob,length_zip];simp only[Zj,Zm];omega
 rw[Zb s] at hp;by_cases y:f.Xi=4
 ·rw[Zc y] at hp;simp only[Zh] at hp;have e:AP f=[.str f.Xj,.str (Aa f.Of),.int f.Lo,.int f.Hi]:=by unfold AP;simp[y]
  have:=BS hp.2;refine⟨?_,by rw[e];simp⟩;rw[e];simp only[Zp,ZF,ZN,ZL,forall_eq];exact⟨d,Ia hp.1,Br om,Br om⟩
 rw[Zb y] at hp;by_cases z:f.Xi=5
 ·rw[Zc z] at hp;simp only[Zh] at hp;have e:AP f=[.str f.Xj,.str (Aa f.Of),.int f.Lo,.int f.Hi]:=by unfold AP;simp[z]
  have:=BS hp.2;refine⟨?_,by rw[e];simp⟩;rw[e];simp only[Zp,ZF,ZN,ZL,forall_eq];exact⟨d,Ia (by rw[hp.1];simp),Br om,Br om⟩
 rw[Zb z] at hp;by_cases A:f.Xi=6
 ·rw[Zc A] at hp;have e:AP f=[.str f.Xj,.str f.Of]:=by unfold AP;simp[A]
  refine⟨?_,by rw[e];simp⟩;rw[e];simp only[Zp,ZF,ZN,ZL,forall_eq];exact⟨d,DS hp⟩
 rw[Zb A] at hp;by_cases C:f.Xi=7
 ·rw[Zc C] at hp;simp only[Zh] at hp;have e:AP f=[.str f.Xj,.str f.Up,.str f.Of,.int f.Lo,.int f.Hi]:=by unfold AP;simp[C]
  have:=BS hp.2;refine⟨?_,by rw[e];simp⟩;rw[e];simp only[Zp,ZF,ZN,ZL,forall_eq];exact⟨d,DS hp.1.2,DS hp.1.1,Br om,Br om⟩
 rw[Zb C] at hp;by_cases F:f.Xi=8
 ·rw[Zc F] at hp;simp only[Zh] at hp;have e:AP f=[.str f.Xj,.str f.Up,.str f.Of]:=by unfold AP;simp[F]
  refine⟨?_,by rw[e];simp⟩;rw[e];simp only[Zp,ZF,ZN,ZL,forall_eq];exact⟨d,DS hp.2,DS hp.1⟩
 rw[Zb F] at hp;cases hp
def aX {f:Qe} (h:AH f=true) (a:f.Words.length<=3):(Df f).length<=115:=by have⟨b,d⟩:=aW h a;have:=Hd (w:=FY f) b;have:=(Oc (EJ h).kind).2.2;unfold Df;omega
structure Tiny (x:Qc):Prop where
 kinds:x.Xa.length<=3
 words:∀k∈x.Xa,∀f∈k.Xb,f.Words.length<=3
 lives:x.Xd.length<=1
 life:∀l∈x.Xd,l.Xe.length<=4/\l.Xg.length<=5
 rules:x.Xc.length<=2
def kind_t {k:QA} (h:BI k=true) (a:∀f∈k.Xb,f.Words.length<=3):(DH k).length<=1200:=by
 simp only[BI,Zh,ZD,Zk] at h;have⟨⟨⟨b,d⟩,p⟩,e⟩:=h;have:=BS d;have m:∀v∈[AnyV.str k.Xj,.int k.Lo,.int k.Hi],VT v:=by simp only[Zp,ZF,ZN,ZL,forall_eq];exact⟨DS b,Br om,Br om⟩
 have e1:=Hd (w:=[107,105,110,100]) m;have e2:=DU (l:=k.Xb) (g:=Df) (B:=115) λf hf=>aX (e f hf) (a f hf);unfold DH;rw[Ze];simp only[Zj,Zm] at e1;omega
def life_t {l:Qm} (h:BT l=true) (e:l.Xe.length<=4) (hm:l.Xg.length<=5):(DV l).length<=300:=by
 simp only[BT,Zh,ZD,Zk] at h;have⟨⟨⟨⟨g,p⟩,q⟩,y⟩,t⟩:=h;have hl:=(Aq p).2;have a:∀v∈[AnyV.str l.Xj,.int (l.Xe.length:Int)]++l.Xe.map .str,VT v:=λv a=>by
  rcases ZH.1 a with a | a
  ·simp only[Zp,ZF,ZN] at a;rcases a with rfl | rfl
   ·exact DS g
   ·exact Br om
  ·obtain⟨s,e,rfl⟩:=ZR.1 a;exact DS (q s e)
 have b:∀m∈l.Xg,(EK m).length<=31:=λm hm=>by have d:=t m hm;simp only[Bf,Zh] at d;have a1:=Aq d.1;have a2:=Aq d.2;have:=Hd (w:=[109,111,118,101]) (l:=[AnyV.int m.a0,.int m.a1]) (by simp only[Zp,ZF,ZN,ZL,forall_eq];exact⟨Br om,Br om⟩);simp only[Zj,Zm] at this;unfold EK;omega
 have e1:=Hd (w:=[108,105,102,101]) a;have e2:=DU b;unfold DV;rw[Ze];simp only[Ze,Zj,Zm,Yh] at e1;omega
def rule_t {r:QL} (h:BF r=true):(EL r).length<=70:=by simp only[BF,Zh] at h;have⟨⟨⟨⟨⟨a,b⟩,d⟩,g⟩,_⟩,m⟩:=h;have:=Aq m;have:=Hd (w:=[114,117,108,101]) (l:=Dv r) (by unfold Dv;simp only[Zp,ZF,ZN,ZL,forall_eq];exact⟨DS a,DS b,Ia d,Ia g,Br om⟩);have e:(Dv r).length=5:=rfl;simp only[Zj,Zm] at this;unfold EL;omega
def aY {x:Qc} (h:Tiny x) (b:CU x=true):CT x=0:=by have⟨t1,t2,t3,t4,t5⟩:=h;have a:=HZ b;have e0:=Hd (w:=[115,99,104,101,109,97]) (l:=[AnyV.int x.Version]) (by simp only[Zp,ZF,ZN,forall_eq];have:=a.version;exact Br om);have e1:=DU (l:=x.Xa) (g:=DH) (B:=1200) λk d=>kind_t (a.kind k d) (t2 k d);have e2:=DU (l:=x.Xd) (g:=DV) (B:=300) λl hl=>life_t (a.life l hl) (t4 l hl).1 (t4 l hl).2;have m:=DU (l:=x.Xc) (g:=EL) (B:=70) λr e=>rule_t (a.rule r e);simp only[Zj,Zm] at e0;unfold CT;rw[Zc b,Zb];unfold srcS;simp only[Ze];omega
def VF (f:Qe):Prop:=AH f=true/\f.Words.length<=3/\(-1000<=f.Lo/\f.Lo<=1000)/\(-1000<=f.Hi/\f.Hi<=1000)
def KV (n:Nat) (k:QA):Prop:=k.Xb.length<=n/\(∀f∈k.Xb,VF f)/\QX k.Xj=true/\(0<=k.Lo/\k.Lo<=k.Hi/\k.Hi<=60)
def KV.Xo {a b:Nat} {k:QA} (h:KV a k) (d:a<=b):KV b k:=⟨Yt h.1 d,h.2⟩
def He {lo hi a b:Int} (h:a<=lo/\lo<=hi/\hi<=b):Bg lo hi a b=true:=by unfold Bg;simp only[Zh,Zk];omega
def E2 {n a b:Int} (h:a<=n/\n<=b):inW n a b=true:=by unfold inW;simp only[Zh,Zk];omega
section
variable {n o u:Str} {lo hi:Int}
def vf_key (d:QX n=true) (h:-1000<=lo/\lo<=1000):VF ⟨n,[],[],0,lo,0,[],[]⟩:=by refine⟨?_,sm,h,sm⟩;have:=E2 (n:=lo) (a:=-1048576) (b:=1048576) om;simp[AH,BG,A8,Av,d,this]
def Od (d:QX n=true) (e:QX o=true) (h:0<=lo/\lo<=hi/\hi<=1000):VF ⟨n,o,[],1,lo,hi,[],[]⟩:=by refine⟨?_,sm,by dsimp only;omega,by dsimp only;omega⟩;have:=He (lo:=lo) (hi:=hi) (a:=0) (b:=65536) om;simp[AH,BG,A8,Av,d,e,this]
def Oe (d:QX n=true) (h:-1000<=lo/\lo<=hi/\hi<=1000):VF ⟨n,[],[],2,lo,hi,[],[]⟩:=by refine⟨?_,sm,by dsimp only;omega,by dsimp only;omega⟩;have:=He (lo:=lo) (hi:=hi) (a:=-1048576) (b:=1048576) om;simp[AH,BG,A8,Av,d,this]
def aZ {w:List Str} {g:Lz} (a:QX n=true) (h:DT w g=true) (b:w.length<=3):VF ⟨n,[],[],3,0,0,w,g⟩:=by refine⟨?_,b,sm,sm⟩;simp[AH,BG,A8,Av,a,h]
def Su (d:QX n=true) (e:((o==[])||QX o)=true) (h:-1000<=lo/\lo<=hi/\hi<=1000):VF ⟨n,o,[],4,lo,hi,[],[]⟩:=by refine⟨?_,sm,by dsimp only;omega,by dsimp only;omega⟩;have:=He (lo:=lo) (hi:=hi) (a:=-1048576) (b:=1048576) om;simp[AH,BG,A8,Av,d,this];simpa using e
def aQ (d:QX n=true) (e:QX o=true) (h:0<=lo/\lo<=hi/\hi<=32):VF ⟨n,o,[],5,lo,hi,[],[]⟩:=by refine⟨?_,sm,by dsimp only;omega,by dsimp only;omega⟩;have:=He (lo:=lo) (hi:=hi) (a:=0) (b:=32) om;simp[AH,BG,A8,Av,d,e,this]
def vf_sum (a:QX n=true) (b:QX o=true):VF ⟨n,o,[],6,0,0,[],[]⟩:=by refine⟨?_,sm,sm,sm⟩;simp[AH,BG,A8,Av,a,b]
def bA (d:QX n=true) (e:QX o=true) (hu:QX u=true) (h:0<=lo/\lo<=hi/\hi<=1000):VF ⟨n,o,u,7,lo,hi,[],[]⟩:=by refine⟨?_,sm,by dsimp only;omega,by dsimp only;omega⟩;have:=He (lo:=lo) (hi:=hi) (a:=0) (b:=1048576) om;simp[AH,BG,A8,Av,d,e,hu,this]
def bB (a:QX n=true) (b:QX o=true) (hu:QX u=true):VF ⟨n,o,u,8,0,0,[],[]⟩:=by refine⟨?_,sm,sm,sm⟩;simp[AH,BG,A8,Av,a,b,hu]
end
def VF.name {f:Qe} (h:VF f):QX f.Xj=true:=by have:=h.1;unfold AH at this;simp only[Zh] at this;exact this.1.1
def Sv {m:QR} (hm:MOk m):Ok (Ib m) (λr=>r.1.length<=2/\(∀f∈r.1,VF f)/\MOk r.2):=by
 unfold Ib;refine Ok.take hm dc λr m1 _ _ z=>?_;refine Ok.ite (λ_=>?_) (λ_=>?_)
 ·refine Ok.take z dc λe X a2 Z q=>Ok.take q dc λA Y a3 b3 C=>Ok.mk ⟨sm,?_,C⟩;dsimp only;rw[w64 (n:=e - 5) om om,w64 (n:=e - 5+A) om om];intro f hf;rw[Zi] at hf;subst hf;exact Oe dc om
 refine Ok.ite (λ_=>?_) (λ_=>?_)
 ·refine Ok.take z dc λe X a8 a9 q=>?_;have F:i64.wrap (1+e)=1+e:=w64 om om;refine Ok.sub dc (by dsimp only;rw[F];omega) (by dsimp only;rw[F];simp;omega) λw hw a0=>?_;dsimp only at hw;rw[F] at hw;have b0:1<=w.length/\w.length<=3:=by omega
  have a1:w.all QX=true:=by rw[ZD];intro s K;have:=a0 s K;simp only[Zp,ZF,ZN] at this;rcases this with rfl | rfl | rfl<;>decide
  refine Ok.bind (P:=λr=>(r.1.length=w.length/\∀g∈r.1,0<=g/\g<=10)/\MOk r.2) (Ok.loop (λk s=>0<=s.1/\s.1+k=w.length/\s.2.1.length=s.1/\(∀g∈s.2.1,0<=g/\g<=10)/\MOk s.2.2) w.length ⟨Zx _,sm,sm,sm,q⟩ λk s K=>?_) (λp hp=>?_)
  ·have⟨i,ws,Y⟩:=s;have⟨e1,e2,e3,e5,e4⟩:=K;dsimp only at e1 e2 e3 e4 e5;refine Ok.ite (λh=>?_) (λh=>?_)
   ·have h':i<w.length:=Zt h;refine Ok.take e4 dc λM m4 a4 b4 I=>Ok.rm so (Ok.mk ?_);dsimp only;rw[w64 om om];refine⟨k - 1,om,om,om,so,λg d=>?_,I⟩;rcases ZH.1 d with d | d
    ·exact e5 g d
    ·rw[Zi] at d;omega
   ·have h':¬i<w.length:=Zy h;exact Ok.mk ⟨⟨by dsimp only;omega,e5⟩,e4⟩
  ·have⟨⟨p1,p2⟩,p3⟩:=hp;refine Ok.take p3 om λM m4 a6 b1 I=>Ok.take I dc λt m5 a5 b5 N=>?_;refine Ok.setAt a6 (by dsimp only;omega) (Ok.mk ⟨sm,?_,N⟩);dsimp only;rw[w64 (n:=1+t) om om];intro f hf;rw[Zi] at hf;subst hf;have y:∀g∈p.1.set M.toNat (1+t),0<=g/\g<=10:=λg d=>by
    rcases mem_or_eq_of_mem_set d with d | d
    ·exact p2 g d
    ·omega
   have O:(1+t)∈p.1.set M.toNat (1+t):=mem_set om _;have Q:∀l:Lz,(∀g∈l,0<=g/\g<=10)->∀v∈l,v<=l.sum/\0<=l.sum:=λl=>by
    induction l with
    | nil=>intro _ v S;cases S
    | cons a l ih=>
     intro hl v S;have ha:=hl a Zs;have K:0<=l.sum:=by
      have:∀l:Lz,(∀g∈l,0<=g/\g<=10)->0<=l.sum:=λl=>by
       induction l with
       | nil=>intro _;simp
       | cons b l a7=>intro h;have z:=h b Zs;have q:=a7 λg d=>h g (ZE _ d);simp only[sum_cons];omega
      exact this l λg d=>hl g (ZE _ d)
     simp only[sum_cons];rcases Zp.1 S with rfl | S
     ·omega
     ·have:=(ih (λg d=>hl g (ZE _ d)) v S).1;omega
   refine aZ dc ?_ om;unfold DT;simp only[Zh,ZD,Yj,Zk];refine⟨λg d=>E2 (by have:=y g d;omega),⟨⟨E2 om,by rw[ZK];omega⟩,?_⟩,λs K=>ZD.1 a1 s K⟩;have:=(Q _ y _ O).1;omega
 refine Ok.ite (λ_=>?_) (λ_=>?_)
 ·refine Ok.take z dc λe X a2 Z q=>Ok.take q dc λA Y a3 b3 C=>Ok.take C dc λM m4 a4 b4 I=>Ok.take I dc λt m5 a5 b5 N=>Ok.mk ⟨sm,?_,N⟩;dsimp only;rw[w64 (n:=e - 200) om om,w64 (n:=e - 200+A) om om,w64 (n:=3+t) om om];intro f hf;simp only[Zp,ZF,ZN] at hf;rcases hf with rfl | rfl
  ·exact Su dc dc om
  ·exact Su dc dc om
 refine Ok.ite (λ_=>?_) (λ_=>?_)
 ·refine Ok.take z dc λe X a2 Z q=>Ok.take q dc λA Y a3 b3 C=>Ok.mk ⟨sm,?_,C⟩;dsimp only;rw[w64 (n:=e+A) om om];intro f hf;rw[Zi] at hf;subst hf;exact aQ dc dc om
 refine Ok.ite (λ_=>?_) (λ_=>?_)
 ·refine Ok.take z dc λe X a2 Z q=>Ok.take q dc λA Y a3 b3 C=>Ok.take C dc λM m4 a4 b4 I=>Ok.take I dc λt m5 a5 b5 N=>Ok.mk ⟨sm,?_,N⟩;dsimp only;rw[w64 (n:=5+A) om om,w64 (n:=10+t) om om];intro f hf;simp only[Zp,ZF,ZN] at hf;rcases hf with rfl | rfl
  ·exact Oe dc om
  ·exact Oe dc om
 ·exact Ok.mk ⟨sm,sm,z⟩
set_option maxHeartbeats 1000000 in
def bC {m:QR} {l:List QA} {N:Nat} (hm:MOk m) (hl:l.length<=2) (hN:N<=20) (C:∀k∈l,KV N k):
  Ok (Ko m l) (λr=>(KV 9 r.1/\(l.length<=1->KV 8 r.1)/\(l.length=0->KV 5 r.1))/\MOk r.2.1/\r.2.2.length=l.length/\∀k∈r.2.2,KV (N+1) k):=by
 unfold Ko;refine Ok.take hm dc λr1 m1 a1 b1 h1=>?_;refine Ok.idx a1 (sa b1) λlo b6 _=>?_;refine Ok.idx om so λS d _=>?_;have z:QX S=true:=by simp only[Zp,ZF,ZN] at d;rcases d with rfl | rfl | rfl<;>decide
 have g4:0<=lo/\lo<=4:=by simp only[Zp,ZF,ZN] at b6;omega
 refine Ok.take h1 dc λr2 m2 a2 b2 h2=>?_;refine Ok.take h2 dc λr3 m3 a3 b3 h3=>?_;refine Ok.idx a3 (sa b3) λX b7 _=>?_;have q:VF ⟨[105,100],[],[],0,X,0,[],[]⟩:=by simp only[Zp,ZF,ZN] at b7;exact vf_key dc om
 have Y:∀f∈([⟨[105,100],[],[],0,X,0,[],[]⟩]:List Qe),VF f:=λf hf=>by rw[Zi] at hf;subst hf;exact q
 apply Ok.rm sm;refine Ok.bind (P:=λp:QR×List Qe×List QA=>MOk p.1/\(p.2.1.length<=4/\(l.length=0->p.2.1.length<=1))/\(∀f∈p.2.1,VF f)/\p.2.2.length=l.length/\∀k∈p.2.2,KV (N+1) k)
  (Ok.ite (λZ=>?_) (λ_=>Ok.mk ⟨h3,⟨sm,sm⟩,Y,rfl,λk h=>(C k h).Xo om⟩)) λp hp=>?_
 ·have b8:(0:Int)<l.length:=Zt Z;refine Ok.take h3 om λto m4 a4 M h4=>?_;refine Ok.idx a4 M λkt c0 i4=>?_;refine Ok.take h4 dc λr5 m5 a5 b5 h5=>?_;refine Ok.idx a5 (sa b5) λhi c4 _=>?_;have g5:2<=hi/\hi<=8:=by
   simp only[Zp,ZF,ZN] at c4;omega
  refine Ok.take h5 dc λr6 m6 _ _ h6=>?_;have a0:=(C kt c0).2.2.1;refine Ok.bind (P:=VF) (Ok.ite (λ_=>Ok.mk (Od dc a0 om)) (λ_=>Ok.mk (Od dc a0 om))) λf hf=>?_;apply Ok.rm sm;refine Ok.idx a4 M λc5 F _=>?_;refine (bD (by have:=(C _ F).1;omega)).bind λc hc=>?_;refine Ok.opt (P:=λr:Int×QR=>MOk r.2) (λh=>(Ic h6 dc).Xo λr h=>h.2.2) λr7 h7=>?_;have m7:MOk (bif (decide (c>=(0:Int)))==true then r7.2 else m6):=Kr (λh=>h7 (by rw[h];rfl)) h6;refine Ok.bind (P:=λp:List Qe=>p.length<=3/\∀f∈p,VF f) (Ok.ite (λh=>?_) (λ_=>Ok.mk ⟨sm,?_⟩)) λfs b=>?_
  ·simp only[Zh,Zk] at h;refine Ok.idx a4 M λc6 g6 g7=>?_;have e:c6=c5:=by simp_all
   subst e;refine Ok.idx h.1 hc.2 λg hg _=>Ok.rm sm (Ok.mk ⟨sm,?_⟩);have sg:=((C _ F).2.1 g hg).name;intro x hx;simp only[Yl,cons_append,Zp,ZF,ZN] at hx;rcases hx with rfl | rfl | rfl
   ·exact q
   ·exact hf
   ·exact bB dc sg dc
  ·intro x hx;simp only[Yl,cons_append,Zp,ZF,ZN] at hx;rcases hx with rfl | rfl
   ·exact q
   ·exact hf
  ·refine Ok.idx a4 M λi5 a6 g8=>?_;refine (Ks (by have:=(C _ a6).1;omega)).bind λc7 g9=>?_;refine Ok.opt (P:=λr:Int×QR=>MOk r.2) (λh=>(Ic m7 dc).Xo λr h=>h.2.2) λr8 h8=>?_;have m8:MOk (bif (decide (c7<(0:Int)))==true then r8.2 else bif (decide (c>=(0:Int)))==true then r7.2 else m6):=Kr (λh=>h8 (by rw[h];rfl)) m7;refine Ok.bind (P:=λp:QR×List Qe×List QA=>MOk p.1/\(p.2.1.length<=4/\(l.length=0->p.2.1.length<=1))/\(∀f∈p.2.1,VF f)/\p.2.2.length=l.length/\∀k∈p.2.2,KV (N+1) k)
    (Ok.ite (λh=>?_) (λ_=>Ok.mk ⟨m8,⟨by have:=b.1;dsimp only;omega,λh0=>om⟩,b.2,rfl,λk h=>(C k h).Xo om⟩)) λp hp=>Ok.mk hp
   refine Ok.take m8 dc λr9 m9 a9 b9 h9=>Ok.take h9 dc λc8 i6 a10 i7 c9=>?_;apply Ok.rm (by have:=b.1;simp;omega);refine Ok.idx a4 M λe3 a7 i0=>?_;have O:=C _ a7;have i1:=O.1;refine Ok.rm so (Ok.rm so ?_);refine Ok.idx a4 M λe4 i2 i3=>?_;have e:e4=e3:=by simp_all
   subst e;refine Ok.setAt a4 M (Ok.mk ⟨c9,⟨?_,λh0=>om⟩,?_,?_,?_⟩)
   ·have:=b.1;simp;omega
   ·intro x hx;rcases ZH.1 hx with hx | hx
    ·exact b.2 x hx
    ·rw[Zi] at hx;subst hx;rw[w64 (n:=r9+c8) om om];exact bA dc dc dc om
   ·simp
   ·intro k Q;rcases mem_or_eq_of_mem_set Q with Q | rfl
    ·exact (C k Q).Xo om
    ·refine⟨?_,?_,O.2.2⟩
     ·simp;omega
     ·intro x hx;rcases ZH.1 hx with hx | hx
      ·exact O.2.1 x (sa hx)
      ·rw[Zi] at hx;subst hx;exact vf_sum dc z
 ·have⟨q1,⟨q2,q6⟩,q3,q4,q5⟩:=hp;refine Ok.opt (P:=λr:Int×QR=>MOk r.2) (λh=>(Ic q1 dc).Xo λr h=>h.2.2) λe5 e6=>?_;have e7:MOk (bif (decide ((l.length:Int)>(1:Int)))==true then e5.2 else p.1):=Kr (λh=>e6 (by rw[h];rfl)) q1;refine Ok.bind (P:=λp:List Qe=>(p.length<=5/\(l.length<=1->p.length<=4)/\(l.length=0->p.length<=1))/\∀f∈p,VF f) (Ok.ite (λh=>?_) (λ_=>Ok.mk ⟨⟨om,λ_=>q2,q6⟩,q3⟩)) λfs b=>?_
  ·simp only[Zh,Zk] at h;refine Ok.idx dc om λk0 e8 _=>Ok.rm so (Ok.mk ⟨⟨so,λh1=>om,λh1=>om⟩,?_⟩);intro x hx;rcases ZH.1 hx with hx | hx
   ·exact q3 x hx
   ·rw[Zi] at hx;subst hx;exact Od dc (q5 k0 e8).2.2.1 dc
  ·refine (Sv e7).bind λA e9=>?_;have⟨c1,c2,c3⟩:=e9;have⟨⟨f1,f3,f4⟩,f2⟩:=b;apply Ok.rm om;refine Ok.take c3 dc λi9 j0 _ _ a8=>?_;have s:∀f∈fs++A.1,VF f:=λx hx=>(ZH.1 hx).elim (f2 x) (c2 x);have I:(fs++A.1).length<=7/\(l.length<=1->(fs++A.1).length<=6)/\(l.length=0->(fs++A.1).length<=3):=by
    rw[Ze];exact⟨om,λh=>by have:=f3 h;omega,λh=>by have:=f4 h;omega⟩
   have⟨I,t,y⟩:=I;have eh:i64.wrap (lo+r2)=lo+r2:=w64 om om;refine Ok.bind (P:=λp:QR×List Qe=>MOk p.1/\(p.2.length<=9/\(l.length<=1->p.2.length<=8)/\(l.length=0->p.2.length<=5))/\∀f∈p.2,VF f) (Ok.ite (λh=>?_) (λ_=>Ok.mk ⟨a8,⟨by dsimp only;omega,λh=>by have:=t h;dsimp only;omega,λh=>by have:=y h;dsimp only;omega⟩,s⟩)) λj1 a=>Ok.mk ⟨⟨⟨a.2.1.1,a.2.2,z,?_⟩,λh=>⟨a.2.1.2.1 h,a.2.2,z,?_⟩,λh=>⟨a.2.1.2.2 h,a.2.2,z,?_⟩⟩,a.1,q4,q5⟩
   rotate_left
   ·dsimp only;rw[eh];omega
   ·dsimp only;rw[eh];omega
   ·dsimp only;rw[eh];omega
   refine (Sv a8).bind λb0 g0=>?_;have⟨d1,d2,d3⟩:=g0;refine Ok.opt (P:=λ_=>True) (λh=>?_) λg _=>?_
   ·have h':(b0.1.length:Int)>0:=by simpa using h
    exact (Ok.idx dc om λv _ _=>Ok.mk trivial:Ok ((idx b0.1 0).bind some) _).Xo (λ_ h=>h) |> λh=>by simpa using h
   refine Ok.opt (P:=λ_=>True) (λh=>(Ks om).Xo λ_ _=>trivial) λg2 _=>?_;refine Ok.bind (P:=λp:List Qe=>(p.length<=9/\(l.length<=1->p.length<=8)/\(l.length=0->p.length<=5))/\∀f∈p,VF f) (Ok.ite (λh=>Ok.rm om (Ok.mk ⟨⟨by rw[Ze];omega,λh=>by rw[Ze];have:=t h;omega,λh=>by rw[Ze];have:=y h;omega⟩,λx hx=>(ZH.1 hx).elim (s x) (d2 x)⟩)) (λ_=>Ok.mk ⟨⟨om,λh=>by have:=t h;omega,λh=>by have:=y h;omega⟩,s⟩)) λj2 K=>Ok.mk ⟨d3,K.1,K.2⟩
def Sw {s:Str} (h:QX s=true):∀c∈s,(CO (c.toNat:Int)||Dg (c.toNat:Int))=true:=by unfold QX at h;simp only[Zh] at h;intro c hc;have a:=h.2.2;unfold AF at a;rw[all_map] at a;exact ZD.1 a c hc
def Og {a r:Str} (ha:QX a=true) (hl:a.length<=10) (e:r.length=1) (hm:∀c∈r,(CO (c.toNat:Int)||Dg (c.toNat:Int))=true):QX (a++r)=true:=by
 cases a with
 | nil=>cases ha
 | cons b a=>
  have d:=Sw ha;unfold QX at ha ⊢;simp only[Zh,cons_append] at ha ⊢;refine⟨E2 (by simp only[Zj,Ze] at hl ⊢;omega),ha.2.1,?_⟩;unfold AF;rw[all_map,ZD];intro c hc;rw[<-cons_append] at hc;rcases ZH.1 hc with hc | hc
  ·exact d c hc
  ·exact hm c hc
def bE {m:QR} {k:QA} (hm:MOk m) (C:KV 9 k):Ok (Kt m k) (λr=>(r.2.1=true->BF r.1=true)/\MOk r.2.2):=by
 unfold Kt;have⟨S,F,l,_⟩:=C;have X:=CM l;have Y:1<=k.Xj.length:=by unfold QX at l;simp only[Zh] at l;have:=(Aq l.1).1;omega
 refine (Ks om).bind λa ha=>(Ks om).bind λb hb=>?_;refine Ok.opt (P:=λr:Int×QR=>MOk r.2) (λh=>(Ic hm dc).Xo λr h=>h.2.2) λr1 p=>?_;have q:MOk (bif (decide (a>=(0:Int)))==true then r1.2 else m):=Kr (λh=>p (by rw[h];rfl)) hm;have s:∀{z:Type} {Q:z->Prop} {f:Str->Option z},(∀r:Str,r.length=1->(∀c∈r,(CO (c.toNat:Int)||Dg (c.toNat:Int))=true)->Ok (f r) Q)->Ok ((sub k.Xj 0 1).bind f) Q:=λh=>Ok.sub dc dc om λr e t=>h r (sa e) λc hc=>Sw l c (t c hc);have g:∀{n a b:Str} {v:Int},QX n=true->((a==[])||QX a)=true->((b==[])||QX b)=true->(a++b !=[])=true->-2000<=v/\v<=2000->BF ⟨n,k.Xj,a,b,v⟩=true:=λp d I K Z=>by unfold BF;simp only[p,l,d,I,K,Bool.true_and,Bool.and_self];exact E2 om
 refine Ok.ite (λ_=>s λr e hm=>Ok.cat so (Ok.take q dc λv y a2 A d=>Ok.mk ⟨λ_=>?_,d⟩)) (λ_=>?_)
 ·dsimp only;rw[w64 (n:=v - 2) om om];exact g (Og dc dc e hm) dc dc dc om
 refine Ok.ite (λ_=>Ok.mk ⟨λh=>(by cases h),q⟩) (λh=>?_);have M:¬b<0:=Zy h;refine Ok.idx om hb.2 λf hf _=>Ok.take q dc λr2 y _ _ d=>?_;have⟨_,_,N,O⟩:=F f hf;refine Ok.ite (λ_=>s λr e hm=>Ok.cat so (Ok.take d dc λv y a2 A d=>Ok.mk ⟨λ_=>?_,d⟩)) (λ_=>s λr e hm=>Ok.cat so (Ok.take d dc λv y a2 A d=>Ok.mk ⟨λ_=>?_,d⟩))
 ·dsimp only;rw[w64 (n:=f.Lo+v) om om];exact g (Og dc dc e hm) dc dc dc om
 ·dsimp only;rw[w64 (n:=v - f.Hi) om om];exact g (Og dc dc e hm) dc dc dc om
def bdN (n:Nat):Nat:=if n<=1 then 5 else if n<=2 then 8 else 9
def bF {l:Lz} (hl:∀x∈l,I64 x):Ok (Ie l) (λx=>(Tiny x/\CU x=true/\∀k∈x.Xa,KV 9 k)/\1<=x.Xa.length):=by
 unfold Ie;refine Ok.sub dc (by unfold imin;split<;>omega) (by unfold imin;split<;>omega) λw _ hw=>?_;have h0:MOk (QR.mk w 0):=λx hx=>hl x (hw x hx);refine Ok.take h0 dc λv m1 av bv h1=>Ok.take h1 dc λn m2 a2 b2 h2=>?_;have en:i64.wrap (1+n)=1+n:=w64 om om;refine Ok.bind (P:=λp:List QA×QR=>p.1.length=1+n/\(∀k∈p.1,KV 9 k)/\MOk p.2)
  (Ok.loop (λk s=>0<=s.1/\s.1+k=1+n/\s.2.1.length=s.1/\(∀q∈s.2.1,KV (bdN s.1.toNat) q)/\MOk s.2.2) (1+n).toNat ⟨Zx _,by dsimp only;omega,sm,sm,h2⟩ λk s K=>?_) (λp hp=>?_)
 ·have⟨i,ks,m3⟩:=s;have⟨e1,e2,z,g,e5⟩:=K;dsimp only at e1 e2 z g e5;have a1:bdN i.toNat<=9:=by unfold bdN;split<;>(try split)<;>omega
  refine Ok.ite (λh=>?_) (λh=>?_)
  ·have h':i<1+n:=by have:=Zt h;rwa [en] at this
   refine (bC (N:=bdN i.toNat) e5 om om g).bind λr hr=>?_;have⟨⟨r1,r5,r6⟩,r2,r3,r4⟩:=hr;refine Ok.rm so (Ok.mk ?_);have O:i64.wrap (i+1)=i+1:=w64 om om;refine⟨k - 1,om,?_⟩;dsimp only;rw[O];refine⟨om,om,so,λq d=>?_,r2⟩;have hi:i=0\/i=1\/i=2:=by omega
   rcases ZH.1 d with d | d
   ·refine (r4 q d).Xo ?_;rcases hi with rfl | rfl | rfl
    ·have:ks.length=0:=by omega
     rw[length_eq_zero_iff.1 (by rw[r3,this]:r.2.2.length=0)] at d;cases d
    ·decide
    ·decide
   ·rw[Zi] at d;subst d;rcases hi with rfl | rfl | rfl
    ·exact r6 om
    ·exact r5 om
    ·exact r1
  ·have h':¬i<1+n:=by have:=Zy h;rwa [en] at this
   refine Ok.mk ⟨by dsimp only;omega,λq d=>(g q d).Xo a1,e5⟩
 have⟨p1,p2,p3⟩:=hp;refine Ok.take p3 dc λt m4 a4 b4 h4=>?_;have et:i64.wrap (2+t)=2+t:=w64 om om;refine Ok.sub dc (by dsimp only;rw[et];omega) (by dsimp only;rw[et];simp;omega) λe Q a3=>?_;dsimp only at Q;rw[et] at Q;have a9:2<=e.length/\e.length<=4:=by omega
 have a5:e.all QX=true:=by rw[ZD];intro s K;have:=a3 s K;simp only[Zp,ZF,ZN] at this;rcases this with rfl | rfl | rfl | rfl<;>decide
 have mv:∀{a b:Int},0<=a/\a<e.length->0<=b/\b<e.length->Bf (e.length:Int) ⟨a,b⟩=true:=λh1 h2=>by unfold Bf;rw[E2 (by dsimp only;omega),E2 (by dsimp only;omega)];rfl
 refine Ok.bind (P:=λp:List AS=>p.length<=3/\∀m∈p,Bf (e.length:Int) m=true) (Ok.loop (λk s=>0<=s.1/\s.1+1+k=e.length/\s.2.length=s.1/\∀m∈s.2,Bf (e.length:Int) m=true) (e.length - 1) ⟨Zx _,by dsimp only;omega,sm,sm⟩ λk s K=>?_) (λb0 S=>?_)
 ·have⟨i,ms⟩:=s;have⟨e1,e2,z,g⟩:=K;dsimp only at e1 e2 z g;have O:i64.wrap (i+1)=i+1:=w64 om om;refine Ok.ite (λh=>?_) (λh=>?_)
  ·have h':i+1<e.length:=by have:=Zt h;rwa [O] at this
   refine Ok.rm so (Ok.mk ⟨k - 1,om,?_⟩);dsimp only;rw[O];refine⟨om,om,so,λq d=>?_⟩;rcases ZH.1 d with d | d
   ·exact g q d
   ·rw[Zi] at d;subst d;exact mv om om
  ·have h':¬i+1<e.length:=by have:=Zy h;rwa [O] at this
   exact Ok.mk ⟨by dsimp only;omega,g⟩
 have⟨S,X⟩:=S;have A:∀{ms:List AS} {m:AS},(∀q∈ms,Bf (e.length:Int) q=true)->Bf (e.length:Int) m=true->∀q∈ms++[m],Bf (e.length:Int) q=true:=λh1 h2 q d=>by
  rcases ZH.1 d with d | d
  ·exact h1 q d
  ·rw[Zi] at d;subst d;exact h2
 refine Ok.take h4 dc λr5 m5 _ _ h5=>?_;refine Ok.bind (P:=λp:List AS=>p.length<=4/\∀m∈p,Bf (e.length:Int) m=true) (Ok.ite (λ_=>Ok.rm so (Ok.mk ⟨so,A X (mv om om)⟩)) (λ_=>Ok.mk ⟨om,X⟩)) λb1 C=>?_;have⟨C,F⟩:=C;refine Ok.take h5 dc λr6 m6 _ _ h6=>?_;have es:i64.wrap ((e.length:Int) - 1)=(e.length:Int) - 1:=w64 om om;refine Ok.bind (P:=λp:List AS=>p.length<=5/\∀m∈p,Bf (e.length:Int) m=true) (Ok.ite (λ_=>Ok.rm so (Ok.mk ⟨so,by rw[es];exact A F (mv om om)⟩)) (λ_=>Ok.mk ⟨om,F⟩)) λa6 I=>?_;have⟨I,Y⟩:=I;apply Ok.rm sm;refine Ok.bind (P:=λp:List QL=>p.length<=2/\∀r∈p,BF r=true) (Ok.loop (λk s=>0<=s.1/\s.1+k=1+n/\(s.2.1.length<=2/\∀r∈s.2.1,BF r=true)/\MOk s.2.2) (1+n).toNat ⟨Zx _,by dsimp only;omega,sm,h6⟩ λk s K=>?_) (λrs M=>?_)
 ·have⟨i,rs,m7⟩:=s;have⟨e1,e2,z,g⟩:=K;dsimp only at e1 e2 z g;refine Ok.ite (λh=>?_) (λh=>Ok.mk z);simp only[Zh,Zk,en] at h;refine Ok.idx e1 om λq d _=>(bE g (p2 q d)).bind λr hr=>?_;refine Ok.bind (P:=λp:List QL=>p.length<=2/\∀r∈p,BF r=true) (Ok.ite (λhy=>Ok.rm so (Ok.mk ⟨so,λy a7=>(ZH.1 a7).elim (z.2 y) λZ=>by rw[Zi] at Z;subst Z;exact hr.1 hy⟩)) (λ_=>Ok.mk z)) λb3 a0=>Ok.mk ⟨k - 1,om,?_⟩;dsimp only;rw[w64 (n:=i+1) om om];exact⟨om,om,a0,hr.2⟩
 ·refine Ok.mk ⟨⟨⟨by dsimp only;omega,λk hk f hf=>((p2 k hk).2.1 f hf).2.1,sm,?_,M.1⟩,?_,p2⟩,by dsimp only;omega⟩
  ·intro q d;simp only[Yl,Zi] at d;subst d;exact⟨by dsimp only;omega,by dsimp only;omega⟩
  ·have hk:p.1.all BI=true:=by
    rw[ZD];intro k hk;have⟨c1,c2,c3,c4⟩:=p2 k hk;unfold BI;simp only[Zh,Zk,ZD];exact⟨⟨⟨c3,He om⟩,om⟩,λf hf=>(c2 f hf).1⟩
   have a8:BT ⟨[108,105,102,101],e,a6⟩=true:=by unfold BT;simp only[Zh,Zk];exact⟨⟨⟨⟨dc,E2 om⟩,a5⟩,om⟩,ZD.2 Y⟩
   unfold CU;simp only[Zh,Zk];refine⟨⟨⟨⟨⟨⟨E2 om,om⟩,sm⟩,by have:=M.1;omega⟩,hk⟩,?_⟩,ZD.2 M.2⟩;simp[a8]
structure Gx (x:Qc):Prop where
  short:IZ x
  tiny:Tiny x
  vs:CU x=true
  kd:∀{k:Nat},k<x.Xa.length->nf x k<=9/\0<=(kd x k).Lo/\(kd x k).Lo<=(kd x k).Hi/\(kd x k).Hi<=60
  fd:∀{k f:Nat},k<x.Xa.length->f<nf x k->(-1010<=(fd x k f).Lo/\(fd x k f).Lo<=1010)/\(-1010<=(fd x k f).Hi/\(fd x k f).Hi<=1010)
def only_w {f:Qe} (h:¬f.Xi=3):(A8 f).Xf=[]:=by
  unfold A8;split
  · rfl
  split
  · rfl
  split
  · rfl
  split
  · rfl
  split
  · rfl
  split<;>rfl
def Sx {x:Qc} (h:Tiny x) (p:CU x=true) (m:∀k∈x.Xa,k.Xb.length<=9):IZ x:=by
  have v:=HZ p;have q:=h.kinds;have s:=h.lives;have b:=h.rules;refine⟨⟨om,λk a=>by have:=m k a;omega⟩,⟨⟨om,λk a=>⟨by have:=m k a;omega,λf hf=>?_⟩⟩,⟨om,λl hl=>by have:=h.life l hl;omega⟩,om⟩,om,om⟩;have t:=h.words k a f hf;have d:=EJ ((Cz (v.kind k a)).2.2 f hf);refine⟨om,?_⟩;by_cases b:f.Xi=3
  · have:=d.pick b;omega
  · have g:=(Cz (v.kind k a)).2.2 f hf;unfold AH BG at g;simp only[Zh,Yj,Zk] at g;have e:=g.1.2.2;rw[e,only_w b];simp
def Fb (x:Qc):Prop:=∀k f,k<x.Xa.length->f<nf x k->(-1000<=(fd x k f).Lo/\(fd x k f).Lo<=1000)/\(-1000<=(fd x k f).Hi/\(fd x k f).Hi<=1000)
def bG {l:Lz} (hl:∀x∈l,I64 x):Ok (Ie l) (λx=>Gx x/\Fb x/\1<=x.Xa.length):=(bF hl).Xo λ_ b=>have h:=b.1;⟨⟨Sx h.1 h.2.1 λk a=>(h.2.2 k a).1,h.1,h.2.1,λa=>⟨(h.2.2 _ (Cq a)).1,(h.2.2 _ (Cq a)).2.2.2⟩,λa hf=>by have:=((h.2.2 _ (Cq a)).2.1 _ (Ev hf)).2.2;omega⟩,λk f a hf=>((h.2.2 _ (Cq a)).2.1 _ (Ev hf)).2.2,b.2⟩
def If {l:Lz} {i n:Int} (hl:∀x∈l,I64 x):Ok (EM l i n) (λr=>0<=r/\(1<=n->r<n)/\(n<=0->r=0)):=by unfold EM;refine Ok.ite (λ_=>Ok.mk ⟨Zx _,λh=>om,λ_=>rfl⟩) (λh=>?_);simp only[Bool.or_eq_false_iff,ZI] at h;refine Ok.idx om om λv a _=>?_;exact (Oh (hl v a)).bind λr b=>Ok.mk b
def CL (x:Qc) (p:Lz):Prop:=p.length<=x.Xa.length/\∀i,i<p.length->0<=p.getD i 0/\p.getD i 0<=(kd x i).Hi
def Sy {x:Qc} (a:HY x):(limL QK.mk x).length<=1000:=by have:=DR x.Xa.length (kndL QK.mk x) 22 λk _=>(OQ QK.mk a k).1;have:=a.kinds;unfold limL;omega
def lim_b {x:Qc} {y:QK} (h:y∈limL QK.mk x):y.B<x.Xa.length:=by
  have⟨i,hi,h⟩:=Ya.1 h;have a:i<x.Xa.length:=Yd.1 hi;unfold kndL at h;rw[Kk a] at h;dsimp only at h;rcases ZH.1 h with h | h
  · simp only[Ez,Zp,ZF,ZN] at h;rcases h with rfl | rfl<;>(dsimp only;omega)
  · have⟨j,_,h⟩:=Ya.1 h;unfold fldL at h;split at h
    · split at h
      · simp only[Ez,Zp,ZF,ZN] at h;rcases h with rfl | rfl<;>exact (FX x _).2
      · cases h
    · cases h
def lim_hi {x:Qc} {k:Nat} (a:k<x.Xa.length):QK.mk (k:Int) (-1) (kd x k).Hi false∈limL QK.mk x:=by refine Ya.2 ⟨k,Yd.2 a,?_⟩;unfold kndL;rw[Kk a];exact mem_append_left _ (by simp[Ez])
def bH {L:List QK} {n:Nat} (d:n<=1000) (hl:L.length<=1000) (hb:∀y∈L,y.B<(n:Int)):Ok (Ku (n:Int) L) (λr=>r.length=n):=by
  unfold Ku;rw[Dp n false om];simp only[Za];refine Ok.bind (P:=λr:List Bool=>r.length=n) (Ok.cnt L.length (λ_ s=>s.length=n) sm (λi s hi a=>?_) λs a=>?_) λr b=>Ok.mk b
  · rw[AL hi,QY hi];dsimp only[ob];have hy:=hb _ (Zr hi);refine Ok.bind (P:=λr:List Bool=>r.length=n) (Ok.ite (λh=>?_) λ_=>Ok.mk a) λr b=>Ok.mk ⟨QD hi om,b⟩;exact Ok.setAt (Zt h) (by rw[a];exact hy) (Ok.mk (by rw[ZK];exact a))
  · rw[AK];exact Ok.mk a
def bI {x:Qc} (a:x.Xa.length<=1000) (d:D.length=x.Xa.length):Ok (Kv x D) (λ_=>True):=by unfold Kv;refine Ok.bind (P:=λ_=>True) (Ok.cnt x.Xa.length (λ_ _=>True) trivial (λi s hi _=>?_) λs _=>by rw[AK];exact Ok.mk trivial) λr _=>Ok.mk trivial;rw[AL hi];refine Ok.idx (by dsimp only;omega) (by dsimp only;omega) λb _ _=>?_;rw[AQ hi];refine Ok.bind (P:=λ_=>True) (Ok.ite (λ_=>Ok.mk trivial) λ_=>Ok.mk trivial) λr _=>Ok.mk ⟨QD hi om,trivial⟩
def bJ {x:Qc} {L:List QK} {now:Lz} (hl:L.length<=1000) (K:∀k,k<x.Xa.length->QK.mk (k:Int) (-1) (kd x k).Hi false∈L) (M:now.length<x.Xa.length):
    Ok (Kw L now) (λr=>0<=r.1/\r.2<=(kd x now.length).Hi/\r.2<=65536):=by
  unfold Kw;refine Ok.bind (P:=λr:Int×Int=>0<=r.2/\r.1<=(kd x now.length).Hi/\r.1<=65536) (Ok.cnt L.length (λi s=>0<=s.2/\s.1<=65536/\∀j (d:j<L.length),j<i->L[j].A=now.length->L[j].B=-1->L[j].Xh=false->s.1<=L[j].Mul) ⟨dc,dc,λj _ h=>om⟩ (λi s hi t=>?_) λs t=>?_) λr N=>Ok.mk N
  · have⟨h0,z,m⟩:=t;have⟨g,O⟩:=s;dsimp only at h0 z m;rw[AL hi,QY hi];dsimp only[ob];have l:∀{a b:Int},0<=b->a<=g->(L[i].A=now.length->L[i].B=-1->L[i].Xh=false->a<=L[i].Mul)->(0<=b/\a<=65536/\∀j (d:j<L.length),j<i+1->L[j].A=now.length->L[j].B=-1->L[j].Xh=false->a<=L[j].Mul):=λ{a b} hb ha hc=>by
      refine⟨hb,om,λj d A e1 e2 F=>?_⟩;rcases Nat.lt_succ_iff_lt_or_eq.1 A with h | h
      · have:=m j d h e1 e2 F;omega
      · subst h;exact hc e1 e2 F
    refine Ok.bind (P:=λp:Int×Int=>0<=p.2/\p.1<=65536/\∀j (d:j<L.length),j<i+1->L[j].A=now.length->L[j].B=-1->L[j].Xh=false->p.1<=L[j].Mul) ?_ λp hp=>Ok.mk ⟨QD hi om,hp⟩;refine Ok.opt (P:=λy:QK=>y=L[i]) (λ_=>Ok.mk rfl) λy hy=>?_;refine Ok.ite (λh=>Ok.mk (l h0 (Zx _) λe1 e2 _=>?_)) λh=>?_
    · rw[ZG] at h;rcases h with h | h
      · rw[e1] at h;simp at h
      · by_cases hA:(L[i].A !=(now.length:Int))=true
        · rw[e1] at hA;simp at hA
        · have:=hy (sa hA);subst this;have:=Zt h;omega
    · rw[Bool.or_eq_false_iff] at h;have:=hy (by rw[h.1];rfl);subst this;have Q:L[i].B<now.length:=by have:=Zy h.2;omega
      refine Ok.bind (P:=λp:Int=>L[i].B=-1->p=L[i].Mul) (Ok.ite (λS=>?_) λ_=>Ok.mk λ_=>rfl) λp hp=>?_
      · have:=Zt S;exact Ok.idx this Q λv _ _=>Ok.mk λe=>by omega
      · refine Ok.bind (P:=λq:Int×Int=>0<=q.1/\q.2<=g/\(L[i].A=now.length->L[i].B=-1->L[i].Xh=false->q.2<=L[i].Mul)) (Ok.ite (λI=>Ok.mk ⟨?_,Zx _,λ_ _ e=>?_⟩) λI=>Ok.mk ⟨h0,?_,λ_ e _=>?_⟩) λq C=>Ok.mk (l C.1 C.2.1 C.2.2)
        · dsimp only;unfold imax;split<;>omega
        · rw[I] at e;cases e
        · dsimp only;unfold imin;split<;>omega
        · dsimp only;rw[hp e];unfold imin;split<;>omega
  · rw[AK];have⟨h0,z,m⟩:=t;have⟨j,d,e⟩:=mem_iff_getElem.1 (K now.length M);have:=m j d d (by rw[e]) (by rw[e]) (by rw[e]);rw[e] at this;exact Ok.mk ⟨h0,this,z⟩
def Kx {a b:Lz} (ha:a.length<=1000):Ok (GK a b) (λ_=>True):=by unfold GK;refine Ok.bind (P:=λ_=>True) (Ok.loop (λk s=>0<=s.1/\s.1+k=a.length+1) (a.length+1) ⟨dc,om⟩ λk s d=>?_) λr _=>Ok.mk trivial;refine Ok.ite (λh=>?_) λ_=>Ok.mk trivial;simp only[Zh,Zk] at h;refine Ok.idx d.1 h.1 λv _ e1=>Ok.idx d.1 h.2 λw _ e2=>?_;refine Ok.idx d.1 h.2 λw _ _=>Ok.idx d.1 h.1 λv _ _=>Ok.mk ⟨k - 1,om,?_⟩;rw[w64 (n:=s.1+1) om om];dsimp only;omega
def bK {a b:Lz} (ha:a.length<=1000):Ok (Ky a b) (λ_=>True):=by
  unfold Ky;refine Ok.bind (P:=λ_=>True) (Ok.loop (λk s=>0<=s/\s+k=a.length+1) (a.length+1) ⟨dc,om⟩ λk s d=>?_) λr _=>by cases r<;>exact Ok.mk trivial
  refine Ok.ite (λh=>?_) λ_=>Ok.mk trivial;simp only[Zh,Zk] at h;refine Ok.idx d.1 h.1 λv _ e1=>Ok.idx d.1 h.2 λw _ e2=>?_;refine Ok.ite (λ_=>Ok.idx d.1 h.1 λv _ _=>Ok.idx d.1 h.2 λw _ _=>Ok.mk trivial) λ_=>Ok.mk ⟨k - 1,om,?_⟩;rw[w64 (n:=s+1) om om];omega
def bL {a b:Lz} (d:w.length<=1000) (hb:b.length<=1000):Ok (Kz w a b) (λr=>r=a\/r=b):=by unfold Kz;refine Ok.ite (λ_=>Ok.mk (.inr rfl)) λ_=>Ok.ite (λ_=>Ok.mk (.inl rfl)) λ_=>?_;refine (Kx d).bind λd1 _=>(Kx d).bind λd2 _=>?_;refine Ok.ite (λ_=>(Kx d).bind λd3 _=>(Kx d).bind λd4 _=>Ok.ite (λ_=>Ok.mk (.inl rfl)) λ_=>Ok.mk (.inr rfl)) λ_=>?_;exact (bK hb).bind λb _=>Ok.ite (λ_=>Ok.mk (.inr rfl)) λ_=>Ok.mk (.inl rfl)
def CL.snoc {x:Qc} {p:Lz} (h:CL x p) (hl:p.length<x.Xa.length) (h0:0<=v) (b:v<=(kd x p.length).Hi):CL x (p++[v]):=by
  refine⟨so,λi hi=>?_⟩;rw[Kq];by_cases a:i<p.length
  · rw[Zc a];exact h.2 i a
  · have:i=p.length:=by simp at hi;omega
    rw[Zb a,Zc this,this];exact⟨h0,b⟩
def Sz {x:Qc} {L:List QK} (A:x.Xa.length<=1000) (hl:L.length<=1000) (g:∀k,k<x.Xa.length->QK.mk (k:Int) (-1) (kd x k).Hi false∈L) (C:D.length=x.Xa.length) (F:w.length=x.Xa.length):
    ∀(N:Nat) (p:Lz),CL x p->x.Xa.length<p.length+N->Ok (Hf N L D w p) (λr=>r=[]\/(r.length=x.Xa.length/\CL x r))
  | 0,p,hp,hN=>by have:=hp.1;omega
  | N+1,p,hp,hN=>by
    show Ok (Ig (Hf N) L D w p) _;unfold Ig;have I:=hp.1;refine Ok.ite (λh=>?_) λh=>?_
    · have:p.length=w.length:=Int.ofNat_inj.1 (sa h);refine Ok.rm so (Ok.mk (.inr ⟨so,by simpa using hp⟩))
    · have hne:p.length≠w.length:=λe=>by simp[e] at h
      refine (bJ hl g (now:=p) om).bind λr a=>?_;have⟨r1,Q,S⟩:=a;refine Ok.ite (λ_=>Ok.mk (.inl rfl)) λd=>?_;have l:r.1<=r.2:=by have:=Zy d;omega
      refine Ok.idx om om λb _ _=>?_;have m:∀v:Int,0<=v->v<=r.2->Ok (Hf N L D w (([]++p)++[v])) (λr=>r=[]\/(r.length=x.Xa.length/\CL x r)):=λv h0 y=>by rw[Yl];exact Sz A hl g C F N _ (hp.snoc om h0 om) so
      refine Ok.ite (λ_=>?_) λ_=>?_
      · refine Ok.idx om om λt _ _=>Ok.rm so (Ok.rm so ?_);refine Ok.bind (m _ ?_ ?_) λr a=>Ok.mk a
        · unfold imin imax;split<;>split<;>omega
        · unfold imin imax;split<;>omega
      · refine Ok.bind (P:=λr=>r=[]\/(r.length=x.Xa.length/\CL x r)) (Ok.loop (λk s=>0<=s.1/\s.1+k=r.2+1/\(s.2=[]\/(s.2.length=x.Xa.length/\CL x s.2))) (r.2+1 - r.1).toNat ⟨r1,by dsimp only;omega,.inl rfl⟩ λk s K=>?_) λr a=>Ok.mk a;have⟨y,X,z⟩:=K;refine Ok.ite (λh=>?_) λ_=>Ok.mk z;have M:=Zt h;refine Ok.rm so (Ok.rm so ((m s.1 y M).bind λt ht=>?_));refine (bL om (by rcases ht with rfl | ht;simp;omega)).bind λq O=>Ok.mk ⟨k - 1,om,?_⟩;rw[w64 (n:=s.1+1) om om];refine⟨by dsimp only;omega,by dsimp only;omega,?_⟩;rcases O with rfl | rfl
        · exact z
        · exact ht
def bM {l:Lz} (hl:l.length<=1000):Ok (LA l) (λ_=>True):=by
  unfold LA;refine Ok.bind (P:=λ_=>True) (Ok.cnt0 l.length (λ_=>True) trivial (λi hi _=>?_) λ_=>by rw[AK];exact Ok.mk trivial) λr _=>by cases r<;>exact Ok.mk trivial
  rw[AL hi,QY hi];dsimp only[ob];refine Ok.opt (P:=λ_=>True) (λ_=>Ok.mk trivial) λy _=>Ok.ite (λ_=>Ok.mk trivial) λ_=>Ok.mk ⟨QD hi om,trivial⟩
def bN {x:Qc} (hx:Gx x) (q:w.length<=1000):Ok (LB x w) (λr=>r.2=0->AN x=[]/\r.1.length=x.Xa.length/\CL x r.1):=by
  unfold LB;rw[aL hx.short];simp only[Za];unfold limR
  cases hc:AN x with
  | cons p l=>have hp:p.Code≠0:=aI (x:=x) (by rw[hc];exact Zs ..);dsimp only;rw[Zc (sa hp)];exact Ok.mk λh=>(hp h).elim
  | nil=>
    have e:=Ce hc;have s:=e.kinds;dsimp only;rw[Zb dc];refine Ok.opt (P:=λ_=>True) (λ_=>bM q) λb _=>?_;refine Ok.ite (λ_=>Ok.mk λh=>absurd h dc) λd=>?_;rw[Bool.or_eq_false_iff] at d;have a:w.length=x.Xa.length:=Int.ofNat_inj.1 (sa d.1);rw[a];refine (bH om (Sy e) λy hy=>lim_b hy).bind λD m=>(bI om m).bind λb _=>?_;refine Ok.ite (λ_=>Ok.mk λh=>absurd h dc) λ_=>?_;refine Ok.ite (λh=>Ok.mk λ_=>⟨rfl,?_,?_,?_⟩) λ_=>?_
    · have:x.Xa.length=0:=by simpa using h
      simp[this]
    · simp
    · intro i hi;simp at hi
    · unfold LC;refine (Sz om (Sy e) (λk t=>lim_hi t) m a (w.length+2) [] ⟨sm,λi hi=>by simp at hi⟩ so).bind λr g=>?_;refine Ok.ite (λ_=>Ok.mk λh=>absurd h dc) λhne=>Ok.mk λ_=>⟨rfl,?_⟩;rcases g with rfl | g
      · simp at hne
      · exact g
def S0 {x:Qc} (hx:Gx x) {l:Lz} (hl:∀y∈l,I64 y):Ok (Ih x l) (λr=>r.2=true->AN x=[]/\r.1.length=x.Xa.length/\CL x r.1):=by
  have d:=hx.short.few.1;unfold Ih;refine Ok.bind (P:=λr:Lz=>r.length=x.Xa.length) (Ok.cnt x.Xa.length (λi s=>s.length=i) rfl (λi s hi a=>?_) λs a=>by rw[AK];exact Ok.mk a) λw e=>?_
  · rw[AL hi];refine (If hl).bind λr _=>Ok.rm so (Ok.mk ⟨QD hi om,?_⟩);simp[a]
  · refine (bN hx (w:=w) om).bind λr b=>Ok.mk λh=>b (sa h)
def cN (p:Lz) (k:Nat):Nat:=(p.getD k 0).toNat
def FitC (x:Qc) (c:Nat->Nat) (n:Nat):Prop:=∀k f,k<n->f<nf x k->∀u:Nat,upIx x k f=u->0<c k->0<c u
def Ey {x:Qc} {p:Lz} (h:CL x p) {k:Nat} (a:k<p.length):p.getD k 0=(cN p k:Int):=by have:=(h.2 k a).1;unfold cN;omega
def bO {x:Qc} (hf:Few x) {p:Lz} (hp:p.length=x.Xa.length) (h0:CL x p):Ok (LD x p) (λr=>r=true->FitC x (cN p) p.length):=by
  have K:=hf.1;unfold LD;refine Ok.bind (P:=λr:Unit⊕Bool=>match r with | .inl _=>FitC x (cN p) p.length | .inr b=>b=false) (Ok.cnt0 p.length (FitC x (cN p)) (λk f h=>om) (λi hi m=>?_) λm=>by rw[AK];exact Ok.mk m) λr g=>?_
  · rw[AL hi];have a:i<x.Xa.length:=by omega
    refine Ok.bind (P:=λr:Unit⊕Bool=>match r with | .inl _=>∀f,f<nf x i->∀u:Nat,upIx x i f=u->0<cN p i->0<cN p u | .inr b=>b=false)
      (Ok.cnt0 (kd x i).Xb.length (λj=>∀f,f<j->∀u:Nat,upIx x i f=u->0<cN p i->0<cN p u) (λf h=>om) (λj C q=>?_) λq=>?_) λr g=>?_
    · rw[AQ a];dsimp only[ob];rw[AL C,Ii hf];dsimp only[ob];have hu:=Kn x i j om;refine Ok.opt (P:=λv=>v=p.getD i 0) (λ_=>Ok.eq (Ai hi) rfl) λv M=>?_;refine Ok.opt (P:=λw=>∀u:Nat,upIx x i j=u->w=p.getD u 0) (λh=>?_) λw N=>?_
      · have O:(0:Int)<=upIx x i j/\0<v:=by simpa using h
        have⟨u,e⟩:=ZB O.1;rw[e];refine Ok.eq (Ai (d:=0) om) λQ e'=>?_;have:u=Q:=by omega
        rw[this]
      · refine Ok.ite (λ_=>Ok.mk rfl) λF=>Ok.mk ⟨QD C (by have:=hf.2 _ (Cq a);omega),λf s u e hc=>?_⟩;rcases Nat.lt_succ_iff_lt_or_eq.1 s with h | h
        · exact q f h u e hc
        · subst h;have t:v=cN p i:=by
            by_cases y:(decide (upIx x i f>=0)==true)=true
            · rw[M y];exact Ey h0 hi
            · rw[e] at y;simp at y
          have I:(decide (upIx x i f>=0)&&decide (v>0))=true:=by rw[e,t];simp;omega
          have z:=N (by rw[I];rfl) u e;have A:u<p.length:=by omega
          rw[I,Bool.true_and,z,Ey h0 A] at F;have:((cN p u:Nat):Int)≠0:=by simpa using F
          omega
    · rw[AQ a];dsimp only[ob];rw[AK];exact Ok.mk q
    · cases r with
      | inr b=>exact Ok.mk g
      | inl _=>
        refine Ok.mk ⟨QD hi om,λk f S l u e hc=>?_⟩;rcases Nat.lt_succ_iff_lt_or_eq.1 S with h | h
        · exact m k f h l u e hc
        · subst h;exact g f l u e hc
  · cases r with
    | inl _=>exact Ok.mk λ_=>g
    | inr b=>exact Ok.mk λh=>by rw[g] at h;cases h
def PG (x:Qc) (c:Nat->Nat) (k f:Nat) (v:Int):Prop:=(-2000000<=v/\v<=2000000)/\((fd x k f).Xi=1->∀u:Nat,upIx x k f=u->0<=v/\v<c u)
def RowG (x:Qc) (c:Nat->Nat) (k:Nat) (r:Lz):Prop:=r.length=nf x k/\∀f,f<nf x k->PG x c k f (r.getD f 0)
def PH (x:Qc) (c:Nat->Nat) (k f:Nat) (v:Int):Prop:=(-4000000<=v/\v<=4000000)/\((fd x k f).Xi=1->∀u:Nat,upIx x k f=u->0<=v/\v<c u)
def RowH (x:Qc) (c:Nat->Nat) (k:Nat) (r:Lz):Prop:=r.length=nf x k/\∀f,f<nf x k->PH x c k f (r.getD f 0)
def RowG.h {x:Qc} {c:Nat->Nat} {k:Nat} (h:RowG x c k r):RowH x c k r:=⟨h.1,λf hf=>⟨by have:=(h.2 f hf).1;omega,(h.2 f hf).2⟩⟩
structure RIw (x:Qc) (c:Nat->Nat) (P:Nat->Lz->Prop) (k i:Nat) (W:Wd):Prop where
  len:W.length=x.Xa.length
  lo:∀k',k'<k->(g1 W k').length=c k'
  at':(g1 W k).length=i
  hi:∀k',k<k'->g1 W k'=[]
  good:∀k',∀r∈g1 W k',P k' r
def RIw.next {x:Qc} {c:Nat->Nat} {k:Nat} {W:Wd} (h:RIw x c P k (c k) W):RIw x c P (k+1) 0 W:=⟨h.len,λa b=>(Nat.lt_succ_iff_lt_or_eq.1 b).elim (h.lo a) λe=>e▸h.at',by rw[h.hi (k+1) om];rfl,λa b=>h.hi a om,h.good⟩
def RIw.add {x:Qc} {c:Nat->Nat} {k:Nat} {W:Wd} (h:RIw x c P k i W) (p:k<x.Xa.length) (q:P k r):RIw x c P k (i+1) (W.set k (g1 W k++[r])):=by
  have e:∀a,g1 (W.set k (g1 W k++[r])) a=if a=k then g1 W k++[r] else g1 W a:=λa=>by
    unfold g1;rw[C1];by_cases d:a=k
    · rw[Zc ⟨d,by rw[h.len];exact p⟩,Zc d]
    · rw[Zb (λe=>d e.1),Zb d]
  refine⟨by rw[ZK];exact h.len,λa g=>?_,?_,λa g=>?_,λa m b=>?_⟩
  · rw[e,Zb om];exact h.lo a g
  · rw[e,Zc rfl,Ze,h.at'];rfl
  · rw[e,Zb om];exact h.hi a g
  · rw[e] at b;by_cases d:a=k
    · rw[Zc d] at b;rcases ZH.1 b with l | l
      · rw[d];exact h.good k m l
      · rw[Zi.1 l,d];exact q
    · rw[Zb d] at b;exact h.good a m b
def RIw.start {x:Qc} {c:Nat->Nat} {n:Nat} (d:n=x.Xa.length):RIw x c P 0 0 (replicate n []):=by
  have e:∀a,g1 (replicate n ([]:List Lz)) a=[]:=λa=>by unfold g1;rw[Zg,getElem?_replicate];split<;>rfl
  exact⟨by simp[d],λa g=>om,by rw[e];rfl,λa _=>e a,λa r b=>by rw[e] at b;cases b⟩
def raw_ok {x:Qc} (hx:Gx x) (hc:AN x=[]) {p l:Lz} (hp:p.length=x.Xa.length) (h0:CL x p) (I:FitC x (cN p) p.length) (hl:∀y∈l,I64 y):
    Ok (LF x p l) (λW=>Sh x.Xa.length (cN p) (nf x) W/\∀k i,k<x.Xa.length->i<cN p k->RowG x (cN p) k (g2 W k i)):=by
  have C:=hx.short.few;have a2:=C.1;unfold LF;rw[Dp _ _ om];dsimp only[ob];refine Ok.bind (P:=λW=>RIw x (cN p) (RowG x (cN p)) p.length 0 W) (Ok.cnt p.length (λk s=>RIw x (cN p) (RowG x (cN p)) k 0 s.2) (RIw.start hp) (λk s m a=>?_) λs a=>by rw[AK];exact Ok.mk a) λW Q=>?_
  · rw[AL m];have⟨n0,W0⟩:=s;dsimp only at a ⊢;have g:k<x.Xa.length:=by omega
    have K:=Ey h0 m;have a3:=(h0.2 k m).2;have M:=hx.kd g;refine Ok.bind (P:=λq:Int×Wd=>RIw x (cN p) (RowG x (cN p)) k (cN p k) q.2) (Ok.cnt (cN p k) (λi s=>RIw x (cN p) (RowG x (cN p)) k i s.2) a (λi s hi a=>?_) λs a=>?_) λq S=>Ok.mk ⟨QD m om,S.next⟩
    · have⟨n1,W⟩:=s;dsimp only at a ⊢;rw[Ai (d:=0) m,K];dsimp only[ob];rw[AL hi];refine Ok.bind (P:=λq:Int×Lz=>RowG x (cN p) k q.2) (Ok.cnt (kd x k).Xb.length (λf s=>s.2.length=f/\∀F,F<f->PG x (cN p) k F (s.2.getD F 0)) ⟨rfl,λF h=>om⟩ (λf s hf A=>?_) λs A=>?_) λq S=>?_
      · have⟨n2,r⟩:=s;have⟨r1,Z⟩:=A;dsimp only at r1 Z ⊢;have a4:=hx.fd g hf;rw[AQ g];dsimp only[ob];rw[AL hf,C0 hf];dsimp only[ob];have e1:i64.wrap ((fd x k f).Hi - (fd x k f).Lo)=(fd x k f).Hi - (fd x k f).Lo:=w64 om om;have e2:imin ((fd x k f).Hi - (fd x k f).Lo) 1000<=1000/\-2020<=imin ((fd x k f).Hi - (fd x k f).Lo) 1000:=by unfold imin;split<;>omega
        rw[e1,w64 (n:=imin ((fd x k f).Hi - (fd x k f).Lo) 1000+6) om om];refine (If hl).bind λt ht=>?_;have a5:0<=t/\t<=1006:=by omega
        refine Ok.bind (P:=PG x (cN p) k f) (Ok.ite (λh=>?_) λh=>Ok.bind (P:=PG x (cN p) k f) (Ok.ite (λX=>?_) λX=>?_) λv z=>Ok.mk z) λv z=>?_
        · have N:(fd x k f).Xi=0:=by simpa using h
          rw[w64 (n:=(cN p k:Int)+3) om om];refine (If hl).bind λv z=>Ok.mk ⟨?_,λe=>om⟩;rw[w64 (n:=(fd x k f).Lo - 1) om om,w64 om om];omega
        · have N:(fd x k f).Xi=1:=by simpa using X
          have⟨u,hu,Y⟩:=Hc hc g hf (.inl N);rw[Ii C,hu];dsimp only[ob];have a6:=I k f m hf u hu om;rw[show idx W (u:Int)=some (g1 W u) from Ai (by rw[a.len];omega)];dsimp only[ob];rw[a.lo u Y];have hm:imax 1 ((cN p u:Nat):Int)=(cN p u:Int):=by unfold imax;split<;>omega
          have a0:=(h0.2 u om).2;have a1:=Ey h0 (k:=u) om;have a7:=hx.kd (k:=u) om;rw[hm];refine (If hl).bind λv z=>Ok.mk ⟨om,λ_ u' a8=>?_⟩;have:u'=u:=by omega
          subst this;exact⟨z.1,z.2.1 om⟩
        · have N:(fd x k f).Xi≠1:=by simpa using X
          refine Ok.bind (P:=λ_=>True) (Ok.ite (λ_=>Ok.mk trivial) λ_=>Ok.mk trivial) λb _=>?_;refine Ok.bind (P:=PG x (cN p) k f) (Ok.ite (λ_=>?_) λ_=>?_) λv z=>Ok.mk z
          · exact (If hl).bind λv z=>Ok.mk ⟨om,λe=>absurd e N⟩
          · refine Ok.mk ⟨?_,λe=>absurd e N⟩;rw[w64 (n:=(fd x k f).Lo - 2) om om,w64 om om];omega
        · have a9:f<9:=by unfold nf at M;omega
          refine Ok.rm so (Ok.mk ⟨QD hf (by unfold nf at M;omega),by simp[r1],λF b0=>?_⟩);rw[Kq];by_cases h:F<r.length
          · rw[Zc h];exact Z F om
          · have:F=f:=by omega
            rw[Zb h,Zc om,this];exact z
      · rw[AQ g];dsimp only[ob];rw[AK];exact Ok.mk ⟨A.1,A.2⟩
      · rw[show idx W (k:Int)=some (g1 W k) from Ai (by rw[a.len];omega)];dsimp only[ob];apply Ok.rm (by rw[a.at'];omega);rw[Cx (by rw[a.len];omega)];exact Ok.mk ⟨QD hi om,a.add g S⟩
    · rw[Ai (d:=0) m,K];dsimp only[ob];rw[AK];exact Ok.mk a
  · rw[hp] at Q;have O:∀k,k<x.Xa.length->(g1 W k).length=cN p k:=Q.lo;have gd:∀k i,k<x.Xa.length->i<cN p k->RowG x (cN p) k (g2 W k i):=λk i m hi=>Q.good k _ (Dr (by rw[O k m];exact hi));exact Ok.mk ⟨⟨Q.len,O,λk i m hi=>(gd k i m hi).1⟩,gd⟩
structure MadeOk (x:Qc) (W:Wd) (q:Lz):Prop where
  gx:Gx x
  fb:Fb x/\1<=x.Xa.length
  clean:AN x=[]
  old:∃c:Nat->Nat,Sh x.Xa.length c (nf x) W/\(∀k i,k<x.Xa.length->i<c k->RowG x c k (g2 W k i))/\∀k,k<x.Xa.length->c k<=60
  len:q.length=x.Xa.length
  win:CL x q
def bP {l m k:Lz} (hl:∀y∈l,I64 y) (hm:∀y∈m,I64 y) (g:∀y∈k,I64 y):Ok (LG l m k) (λr=>r.2.2.2=true->MadeOk r.1 r.2.1 r.2.2.1):=by
  unfold LG;refine (bG hl).bind λx s=>?_;have⟨hx,t⟩:=s;refine (S0 hx hm).bind λp hp=>(S0 hx g).bind λq A=>?_;refine Ok.opt (P:=λb=>p.2=true/\q.2=true/\(b=true->FitC x (cN p.1) p.1.length)) (λh=>?_) λb hb=>?_
  · have a:p.2=true/\q.2=true:=by simpa using h
    have⟨_,a2,a3⟩:=hp a.1;exact (bO hx.short.few a2 a3).Xo λb hb=>⟨a.1,a.2,hb⟩
  · refine Ok.ite (λ_=>Ok.mk λh=>by cases h) λh=>?_;have a:((p.2=true/\q.2=true)/\b=true):=by simpa using h
    have⟨a1,a2,a3⟩:=hp a.1.1;have⟨_,C,F⟩:=A a.1.2;have d:=(hb (by simp[a.1.1,a.1.2])).2.2 a.2;refine (raw_ok hx a1 a2 a3 d hm).bind λW z=>Ok.mk λ_=>⟨hx,t,a1,⟨cN p.1,z.1,z.2,λk g=>?_⟩,C,F⟩;have e:k<p.1.length:=by rw[a2];exact g
    have:=(a3.2 k e).2;have:=Ey a3 e;have:=hx.kd g;omega
def S1 {x:Qc} {k j:Int} (hx:Few x):Ik x k j=some (Du x k j):=by
 unfold Ik Du;rw[FZ]
 cases hf:field? x k j with
 | none=>rfl
 | some f=>have⟨_,a,_⟩:=Cg hf;simp only[Za,Bool.not_true];rw[Zb dc,S2 hx a];simp only[Za];exact bR _ _ id
structure Old (x:Qc) (c:Nat->Nat) (W:Wd):Prop where
  gx:Gx x
  clean:AN x=[]
  sh:Sh x.Xa.length c (nf x) W
  row:∀k i,k<x.Xa.length->i<c k->RowH x c k (g2 W k i)
  le:∀k,k<x.Xa.length->c k<=60
def Old.few (h:Old x c W):Few x:=h.gx.short.few
def Old.kinds (h:Old x c W):x.Xa.length<=6:=(Ce h.clean).kinds
def Old.nf (h:Old x c W) {k:Nat} (a:k<x.Xa.length):nf x k<=9:=(h.gx.kd a).1
def Old.ref (h:Old x c W) {k f u:Nat} (a:k<x.Xa.length) (hi:i<c k) (hf:f<Go.Proofs.YtohojolgolinoaaGreatDoor.nf x k) (b:(fd x k f).Xi=1) (hu:upIx x k f=u):∃j:Nat,g3 W k i f=j/\j<c u:=by have:=((h.row k i a hi).2 f hf).2 b u hu;exact⟨(g3 W k i f).toNat,by unfold g3 at *;omega,by unfold g3 at *;omega⟩
def fd_idx' (k:Nat) {f:Nat} (hf:f<(kd x k).Xb.length):idx (kd x k).Xb (f:Int)=some (fd x k f):=C0 hf
def GL (x:Qc) (y:Qh):Prop:=∃k f u:Nat,y=⟨k,f,u⟩/\k<x.Xa.length/\f<nf x k/\(fd x k f).Xi=1/\upIx x k f=u/\u<k
def Ke {κ:Type} [DecidableEq κ] {m:MpK κ α} {l:List (κ×α)} (h:m=some l) (i:κ) (y:α):E3 m i y=some (some (Ds l i y)):=by rw[h];rfl
def Oi {y:Qh} (hy:GL x y) (d:x.Xa.length<=1000) (hf:∀k,k<x.Xa.length->nf x k<=1000):F6 y=some ():=by obtain⟨k,f,u,rfl,a,b,_,_,hu⟩:=hy;have:=hf k a;unfold F6;rw[Zc];dsimp only;omega
def bS (h:Old x c W) {k:Nat} (a:k<x.Xa.length) (b:r∈g1 W k):Il r x k=some false:=by
  obtain⟨i,hi,rfl⟩:=mem_iff_getElem.1 b;have e:(g1 W k)[i]=g2 W k i:=by have:idx (g1 W k) (i:Int)=some (g2 W k i):=Ai hi;rw[QY hi] at this;exact Zn this
  rw[h.sh.row k a] at hi;rw[e];have⟨hl,d⟩:=h.row k i a hi;unfold Il;rw[AQ a];dsimp only[ob];have e1:(((g2 W k i).length:Int) !=((kd x k).Xb.length:Int))=false:=by rw[hl];unfold nf;simp
  have l:=h.nf a;rw[e1,IP (g2 W k i) (λx0=>Oj x0) (λn=>decide (n< -1099511627776)||decide (n>1099511627776)) (λ_ _=>rfl) om];show some (false||(g2 W k i).any _)=_;have:(g2 W k i).any (λn=>decide (n< -1099511627776)||decide (n>1099511627776))=false:=by
    rw[any_eq_false];intro n g;obtain⟨f,hf,rfl⟩:=mem_iff_getElem.1 g;have e2:(g2 W k i)[f]=(g2 W k i).getD f 0:=by have:idx (g2 W k i) (f:Int)=some ((g2 W k i).getD f 0):=Ai hf;rw[QY hf] at this;exact Zn this
    have:=(d f om).1;rw[e2];simp only[ZG,Zk];omega
  rw[this];rfl
section
variable {L:List Qh} {R:MpK Qh (List Lz)} {V:MpK Str Qm}
def EN (n:Nat) (o:List Qy):Prop:=o.length<=n/\∀p∈o,0<=p.Xi
def EN.Xo {a b:Nat} {o:List Qy} (h:EN a o) (d:a<=b):EN b o:=⟨by have:=h.1;omega,h.2⟩
def E4 (b:Bool) (e:Int):Dh b e=some (if b then e else 0):=by unfold Dh;cases b<;>rfl
def add_ok {ck:Cv} {k a f e:Int} {n:Nat} (l:n<=1000000) (d:0<=k) (b:EN n ck.out):Ok (Dw ck k a f [e]) (λr=>∃o,r=⟨ck.x,ck.w,ck.links,ck.refs,ck.lives,o⟩/\EN (n+1) o):=by
  unfold Dw;refine Ok.bind (P:=EN (n+1)) (Ok.cnt [e].length (λi o=>EN (n+i) o) (sa b) (λi o hi b=>?_) λo b=>by rw[AK];exact Ok.mk (sa b)) λo b=>Ok.mk ⟨o,rfl,b⟩;have g:i<1:=hi;rw[AL hi,QY hi];dsimp only[ob];refine Ok.bind (P:=EN (n+(i+1))) (Ok.ite (λ_=>Ok.rm (by have:=b.1;simp;omega) (Ok.mk ⟨by have:=b.1;simp;omega,λp hp=>?_⟩)) λ_=>Ok.mk (b.Xo om)) λr h=>Ok.mk ⟨QD hi sm,h⟩;rcases ZH.1 hp with hp | hp
  · exact b.2 p hp
  · rw[Zi.1 hp];exact d
def Old.g2k (h:Old x c W) {k f:Nat} (a:k<x.Xa.length) (hi:i<c k) (hf:f<Go.Proofs.YtohojolgolinoaaGreatDoor.nf x k):idx (g2 W k i) (f:Int)=some (g3 W k i f):=h.sh.i3 a hi hf
def Old.fields (h:Old x c W) {k:Nat} (a:k<x.Xa.length):(kd x k).Xb.length<=1000000:=by have:=h.nf a;unfold Go.Proofs.YtohojolgolinoaaGreatDoor.nf at this;omega
end
section
variable {co:Nat->Nat} {old:Wd}
def B8 (k:Nat) (P:Nat->Prop):Nat->Nat->Nat->Prop:=λa _ f=>a=k/\P f
def bT {m:Nat} (h:m<=60):F8 [(-1:Int)] (m:Int)=some (replicate m (-1)):=by
  have key:∀m:Nat,m<61->HO 20 [(-1:Int)] (m:Int)=some (replicate m (-1)):=by decide+kernel
  exact LeC.le (x:=HO 20 [(-1:Int)] (m:Int)) _ (key m om)
def S3 (o lo hi:Int):FQ o lo hi=some (if o<lo then lo else imin o hi):=by
  unfold FQ;by_cases h:o<lo
  · rw[Zc (sa h),Zc h]
  · rw[Zb (sa h),Zb h]
def Ex (x:Qc) (c:Nat->Nat) (k:Nat) (W:Wd):Prop:=∀i f u:Nat,i<c k->f<nf x k->(fd x k f).Xi=1->upIx x k f=u->∃j:Nat,g3 W k i f=j/\j<c u
def Al (x:Qc) (k f:Nat):Prop:=(fd x k f).Xi=3\/(fd x k f).Xi=5\/(fd x k f).Xi=7\/(fd x k f).Xi=8
def Ex.kp {k:Nat} {A:Nat->Nat->Nat->Prop} {V:Wd} (h:Ex x c k W) (b:Kp A W V) (ha:∀i f,(fd x k f).Xi=1->¬A k i f):Ex x c k V:=λi f u hi hf a hu=>by rw[b k i f (ha i f a)];exact h i f u hi hf a hu
end
def upd1 (R:Nat->α) (k:Nat) (v:α):Nat->α:=λq=>if q=k then v else R q
def Eu {k:Nat} {v:α}:upd1 R k v k=v:=Zc rfl
def Fa {k q:Nat} {v:α} (h:q≠k):upd1 R k v q=R q:=Zb h
def SS {k:Nat} {v w:α}:upd1 (upd1 R k v) k w=upd1 R k w:=by funext q;unfold upd1;split<;>rfl
def SU {k:Nat}:upd1 R k (R k)=R:=by
 funext q;unfold upd1;split
 ·rename_i h;rw[h]
 ·rfl
def rowL (m:Nat) (R:Nat->α):List α:=(range m).map R
def tab (m:Nat) (G:Nat->Nat->Int):List Lz:=rowL m λi=>rowL m (G i)
def Es {m:Nat}:(rowL m R).length=m:=by simp[rowL]
def DE {m:Nat} {G:Nat->Nat->Int}:(tab m G).length=m:=Es
def Et {m:Nat} {k:Nat} (h:k<m):idx (rowL m R) (k:Int)=some (R k):=by rw[QY (by rw[Es];exact h)];simp[rowL]
def HR {m:Nat} {k:Nat} (h:k<m) (v:α):setAt (rowL m R) (k:Int) v=some (rowL m (upd1 R k v)):=by
 rw[Cx (by rw[Es];exact h)];congr 1;apply ext_getElem
 ·simp[rowL]
 ·intro i a b;simp only[rowL,getElem_set,getElem_map,getElem_range,upd1];by_cases hi:k=i
  ·rw[Zc hi,Zc hi.symm]
  ·rw[Zb hi,Zb (λh=>hi h.symm)]
def HS {m:Nat} {G:Nat->Nat->Int} (h:i<m):idx (tab m G) (i:Int)=some (rowL m (G i)):=Et h
def ST {m:Nat} {G:Nat->Nat->Int} (h:i<m) (R:Nat->Int):setAt (tab m G) (i:Int) (rowL m R)=some (tab m (upd1 G i R)):=by unfold tab;rw[HR h];congr 1;unfold rowL;apply map_congr_left;intro p _;unfold upd1;split<;>rfl
def HN {m:Nat} {S:Nat->α} (h:∀k,k<m->R k=S k):rowL m R=rowL m S:=by unfold rowL;apply map_congr_left;intro k a;exact h k (sa a)
def SR {m:Nat} {G:Nat->Nat->Int} (h:∀i k,i<m->k<m->G i k=H i k):tab m G=tab m H:=HN λi hi=>HN λk a=>h i k hi a
def YW (m:Nat) (v:α):rowL m (λ_=>v)=replicate m v:=by unfold rowL;rw[map_const'];simp
abbrev INF:Int:=1099511627776
structure Ed where
 a:Nat
 b:Nat
 w:Int
variable {E:List Ed}
inductive Way (E:List Ed):Nat->Nat->Int->Prop where
 | nil (i:Nat):Way E i i 0
 | cons {e:Ed} {k:Nat} {w:Int} (he:e∈E) (h:Way E e.b k w):Way E e.a k (e.w+w)
def Way.trans {k:Nat} {w:Int} (h:Way E i j v) (g:Way E j k w):Way E i k (v+w):=by
 induction h with
 | nil i=>simpa using g
 | cons a _ b=>
  have:=Way.cons a (b g)
  rwa [<-Int.add_assoc] at this
def Way.one {e:Ed} (a:e∈E):Way E e.a e.b e.w:=by simpa using Way.cons a (Way.nil e.b)
def HP (j:Nat) (T R:Nat->Int) (k:Nat):Nat->Int:=if R j<INF/\T k<INF then upd1 R k (imin (R k) (R j+T k)) else R
def A5 (j:Nat) (T R:Nat->Int) (n:Nat):Nat->Int:=(range n).foldl (HP j T) R
def KL (j:Nat) (T R:Nat->Int) (n:Nat):A5 j T R (n+1)=HP j T (A5 j T R n) n:=by unfold A5;rw[Ym,foldl_append];rfl
structure GM (E:List Ed) (m:Nat) (B U:Int) (i:Nat) (R:Nat->Int):Prop where
 lo:∀q,q<m->-B<=R q
 hi:∀q,q<m->R q<=INF
 up:∀q,q<m->R q<INF->R q<=U
 way:∀q,q<m->R q<INF->Way E i q (R q)
def GM.mono {m:Nat} {b d:Int} {R:Nat->Int} (h:GM E m B U i R) (e:B<=b) (hU:U<=d):GM E m b d i R:=⟨λq a=>by have:=h.lo q a;omega,h.hi,λq a hf=>by have:=h.up q a hf;omega,h.way⟩
def KJ (a b:Int):imin a b<=a/\imin a b<=b/\(imin a b=a\/imin a b=b):=by unfold imin;split<;>omega
def KT {m:Nat} {b t:Int} {R:Nat->Int} (l:j<m) (y:GM E m b U i R) (C:GM E m t U j T) (h0:0<=b) (O:0<=t) (hU:0<=U):
  ∀n,n<=m->GM E m (b+t+t) (U+U) i (A5 j T R n)/\(∀q,q<m->A5 j T R n q<=R q)/\(-(b+t)<=A5 j T R n j)/\(n<=j->A5 j T R n j=R j)/\(A5 j T R n j<INF->R j<INF):=by
 intro n
 induction n with
 | zero=>intro _;refine⟨y.mono om om,λq _=>Zx _,?_,λ_=>rfl,λh=>h⟩;have:=y.lo j l;show -(b+t)<=R j;omega
 | succ n K=>
  intro Q;have⟨g,p,F,z,A⟩:=K om;rw[KL];generalize S:A5 j T R n=P at g p F z A;unfold HP;by_cases hc:P j<INF/\T n<INF
  ·rw[Zc hc];have⟨X,Y,I⟩:=KJ (P n) (P j+T n);have Z:=p j l;have u2:=y.up j l (A hc.1);have u3:=C.up n om hc.2;have l3:=C.lo n om;have l1:=g.lo n om;have M:=g.hi n om;have w:Way E i n (P j+T n):=(g.way j l hc.1).trans (C.way n om hc.2);refine⟨⟨λq d=>?_,λq d=>?_,λq d hf=>?_,λq d hf=>?_⟩,λq d=>?_,?_,?_,?_⟩
   ·by_cases a:q=n
    ·subst a;rw[Eu];rcases I with h | h<;>rw[h]<;>omega
    ·rw[Fa a];exact g.lo q d
   ·by_cases a:q=n
    ·subst a;rw[Eu];omega
    ·rw[Fa a];exact g.hi q d
   ·by_cases a:q=n
    ·subst a;rw[Eu];omega
    ·rw[Fa a] at hf ⊢;exact g.up q d hf
   ·by_cases a:q=n
    ·subst a;rw[Eu] at hf ⊢;rcases I with h | h
     ·rw[h] at hf ⊢;exact g.way q d hf
     ·rw[h];exact w
    ·rw[Fa a] at hf ⊢;exact g.way q d hf
   ·by_cases a:q=n
    ·subst a;rw[Eu];have:=p q d;omega
    ·rw[Fa a];exact p q d
   ·by_cases s:j=n
    ·subst s;rw[Eu];have e:=z (Zq _);have l0:=y.lo j l;rcases I with h | h<;>rw[h]<;>omega
    ·rw[Fa s];exact F
   ·intro N;rw[Fa om];exact z om
   ·intro _;exact A hc.1
  ·rw[Zb hc];exact⟨g,p,F,λh=>z om,A⟩
def bU {m:Nat} {R:Nat->Int} (s:j<m) (h0:T j=0) (y:∀q,q<m->R q<=INF):∀n,n<=m->∀q,q<m->A5 j T R n q=if q<n/\R j<INF/\T q<INF then imin (R q) (R j+T q) else R q:=by
 intro n
 induction n with
 | zero=>intro _ q _;rw[Zb om];rfl
 | succ n l=>
  intro z q t;have p:A5 j T R n j=R j:=by
   rw[l om j s];split
   ·rw[h0,Int.add_zero];unfold imin;split<;>omega
   ·rfl
  have d:A5 j T R n n=R n:=by rw[l om n om,Zb om]
  rw[KL];unfold HP;rw[p,d];by_cases g:q=n
  ·subst g;by_cases hc:R j<INF/\T q<INF
   ·rw[Zc hc,Eu,Zc ⟨om,hc⟩]
   ·rw[Zb hc,d,Zb (λh=>hc h.2)]
  ·have e:(if q<n+1/\R j<INF/\T q<INF then imin (R q) (R j+T q) else R q)=if q<n/\R j<INF/\T q<INF then imin (R q) (R j+T q) else R q:=by
    have:(q<n+1/\R j<INF/\T q<INF)↔(q<n/\R j<INF/\T q<INF):=by
     constructor
     ·rintro ⟨a,b⟩;exact⟨om,b⟩
     ·rintro ⟨a,b⟩;exact⟨om,b⟩
    simp only[this]
   rw[e,<-l om q t];split
   ·rw[Fa g]
   ·rfl
structure EB (E:List Ed) (m:Nat) (B U:Int) (G:Nat->Nat->Int):Prop where
 row:∀i,i<m->GM E m B U i (G i)
 diag:∀i,i<m->G i i<=0
def fw (j:Nat) (G:Nat->Nat->Int) (i k:Nat):Int:=if G i j<INF/\G j k<INF then imin (G i k) (G i j+G j k) else G i k
structure PhOk (E:List Ed) (m:Nat) (ph:Nat->(Nat->Nat->Int)->Nat->Nat->Int):Prop where
 ok:∀j B U G,j<m->0<=B->0<=U->EB E m B U G->EB E m (8 * B) (2 * U) (ph j G)
 le:∀j B U G,j<m->0<=B->0<=U->EB E m B U G->∀i k,i<m->k<m->ph j G i k<=G i k
 exact:∀j B U G,j<m->0<=B->0<=U->EB E m B U G->G j j=0->∀i k,i<m->k<m->ph j G i k=fw j G i k
def phP (m j:Nat) (G:Nat->Nat->Int) (i:Nat):Nat->Int:=A5 j (G j) (G i) m
def SM (E:List Ed) (m:Nat):PhOk E m (λj G=>phP m j G):=by
 refine⟨λj B U G a b hU h=>⟨λi hi=>?_,λi hi=>?_⟩,λj B U G a b hU h i k hi d=>?_,λj B U G a b hU h h0 i k hi d=>?_⟩
 ·exact (KT a (h.row i hi) (h.row j a) b b hU m (Zq _)).1.mono om om
 ·have:=(KT a (h.row i hi) (h.row j a) b b hU m (Zq _)).2.1 i hi;have:=h.diag i hi;show A5 j (G j) (G i) m i<=0;omega
 ·exact (KT a (h.row i hi) (h.row j a) b b hU m (Zq _)).2.1 k d
 ·show A5 j (G j) (G i) m k=_;rw[bU a h0 (h.row i hi).hi m (Zq _) k d];unfold fw;simp only[d,true_and]
def Cd (ph:Nat->(Nat->Nat->Int)->Nat->Nat->Int) (G:Nat->Nat->Int) (n:Nat):Nat->Nat->Int:=(range n).foldl (λH j=>ph j H) G
def KS (ph:Nat->(Nat->Nat->Int)->Nat->Nat->Int) (G:Nat->Nat->Int) (n:Nat):Cd ph G (n+1)=ph n (Cd ph G n):=by unfold Cd;rw[Ym,foldl_append];rfl
def Tri (m p:Nat) (G:Nat->Nat->Int):Prop:=∀i k,i<m->k<m->G i p<INF->G p k<INF->G i k<=G i p+G p k
def fw_tri {m p:Nat} {G:Nat->Nat->Int} (g:j<m) (hp:p<m) (hU:2 * U<INF) (d:∀i k,i<m->k<m->G i k<INF->G i k<=U) (h0:G j j=0) (z:∀i k,i<m->k<m->H i k=fw j G i k) (ht:Tri m p G):Tri m p H:=by
 have le:∀i k,i<m->k<m->H i k<=G i k/\(G i j<INF->G j k<INF->H i k<=G i j+G j k)/\(H i k=G i k\/(G i j<INF/\G j k<INF/\H i k=G i j+G j k)):=by
  intro i k hi e;rw[z i k hi e];unfold fw;have⟨A,C,F⟩:=KJ (G i k) (G i j+G j k);by_cases hc:G i j<INF/\G j k<INF
  ·rw[Zc hc];exact⟨A,λ_ _=>C,F.imp id (λh=>⟨hc.1,hc.2,h⟩)⟩
  ·rw[Zb hc];exact⟨Zx _,λa b=>(hc ⟨a,b⟩).elim,.inl rfl⟩
 intro i k hi e K M;have⟨a1,a2,_⟩:=le i k hi e;rcases (le i p hi hp).2.2 with b | ⟨s,l,N⟩<;>rcases (le p k hp e).2.2 with c | ⟨q,y,O⟩
 ·have:=ht i k hi e om om;omega
 ·have t:=ht i j hi g om q;have I:=d i p hi hp om;have u2:=d p j hp g q;have:=a2 (by unfold INF at *;omega) y;omega
 ·have t:=ht j k g e l om;have I:=d j p g hp l;have u2:=d p k hp e om;have:=a2 s (by unfold INF at *;omega);omega
 ·have t:=ht j j g g l q;have:=a2 s y;omega
def bV {m:Nat} {G:Nat->Nat->Int} (b:j<m) (h0:G j j=0) (a:∀i k,i<m->k<m->H i k=fw j G i k):Tri m j H:=by
 intro i k hi d e g;have e1:H i j=G i j:=by
  rw[a i j hi b];unfold fw;split
  ·rw[h0,Int.add_zero];unfold imin;split<;>rfl
  ·rfl
 have e2:H j k=G j k:=by
  rw[a j k b d];unfold fw;split
  ·rw[h0,Int.zero_add];unfold imin;split<;>rfl
  ·rfl
 rw[e1] at e ⊢;rw[e2] at g ⊢;rw[a i k hi d];unfold fw;rw[Zc ⟨e,g⟩];exact (KJ _ _).2.1
structure Fin (E:List Ed) (m:Nat) (G:Nat->Nat->Int):Prop where
 hi:∀i k,i<m->k<m->G i k<=INF
 up:∀i k,i<m->k<m->G i k<INF->G i k<=4294967296
 way:∀i k,i<m->k<m->G i k<INF->Way E i k (G i k)
 diag:∀i,i<m->G i i<=0
 tri:(∀i,i<m->0<=G i i)->∀p,p<m->Tri m p G
 edge:∀e∈E,G e.a e.b<=e.w
def IN:∀n,n<=11->(0:Int)<=8 ^ n * 2097152/\(8:Int) ^ n * 2097152<=18014398509481984/\(0:Int)<=2 ^ n * 2097152/\(2:Int) ^ n * 2097152<=4294967296:=dc
def KP {m:Nat} (a:PhOk E m ph) {G:Nat->Nat->Int} (h:EB E m 2097152 2097152 G) (hm:m<=11):
  ∀n,n<=m->EB E m (8 ^ n * 2097152) (2 ^ n * 2097152) (Cd ph G n):=by
 intro n
 induction n with
 | zero=>intro _;simpa[Cd] using h
 | succ n b=>
  intro d;have hb:=IN n om;rw[KS];have:=a.ok n _ _ _ om hb.1 hb.2.2.1 (b om);have e1:(8:Int) ^ (n+1) * 2097152=8 * (8 ^ n * 2097152):=by rw[Int.pow_succ];omega
  have e2:(2:Int) ^ (n+1) * 2097152=2 * (2 ^ n * 2097152):=by rw[Int.pow_succ];omega
  rw[e1,e2];exact this
def S4 {m:Nat} (a:PhOk E m ph) {G:Nat->Nat->Int} (h:EB E m 2097152 2097152 G) (hm:m<=11) {k:Nat} (hi:i<m) (b:k<m):
  ∀d n,n+d<=m->Cd ph G (n+d) i k<=Cd ph G n i k:=by
 intro d
 induction d with
 | zero=>intro n _;exact Zx _
 | succ d e=>intro n g;have l:=e n om;have hb:=IN (n+d) om;have p:=a.le (n+d) _ _ _ om hb.1 hb.2.2.1 (KP a h hm (n+d) om) i k hi b;rw[<-YC,KS];omega
def YQ {m:Nat} (a:PhOk E m ph) {G:Nat->Nat->Int} (h:EB E m 2097152 2097152 G) (hm:m<=11) (A:∀e∈E,e.a<m/\e.b<m/\G e.a e.b<=e.w):Fin E m (Cd ph G m):=by
 have l:=KP a h hm m (Zq _);have hb:=IN m hm;refine⟨λi k hi b=>(l.row i hi).hi k b,λi k hi b hf=>by have:=(l.row i hi).up k b hf;omega,λi k hi b hf=>(l.row i hi).way k b hf,l.diag,λC=>?_,λe F=>?_⟩
 ·have key:∀n,n<=m->∀p,p<n->Tri m p (Cd ph G n):=by
   intro n
   induction n with
   | zero=>intro _ p hp;omega
   | succ n I=>
    intro K p hp;have d:=KP a h hm n om;have g:=IN n om;have h0:Cd ph G n n n=0:=by have y:=d.diag n om;have q:=S4 a h hm (i:=n) (k:=n) om om (m - n) n om;have M:=C n om;rw[show n+(m - n)=m by omega] at q;omega
    have z:∀i k,i<m->k<m->Cd ph G (n+1) i k=fw n (Cd ph G n) i k:=by intro i k hi b;rw[KS];exact a.exact n _ _ _ om g.1 g.2.2.1 d h0 i k hi b
    by_cases s:p=n
    ·subst s;exact bV om h0 z
    ·exact fw_tri (U:=4294967296) om om dc (λi k hi b hf=>by have:=(d.row i hi).up k b hf;omega) h0 z (I om p om)
  exact key m (Zq _)
 ·have⟨y,q,M⟩:=A e F;have:=S4 a h hm y q m 0 om;rw[Nat.zero_add] at this;have t:Cd ph G 0=G:=rfl;rw[t] at this;omega

/- The generators of schemas give a result. No condition. -/
import Derived.Test.YtmhcoofnnmiejaaGreatDoorGenAll
import Derived.Test.YtmhcoofnnmiejaaGreatDoorOk
set_option linter.all false
open List Go.IntKind
namespace Go.Proofs.YtmhcoofnnmiejaaGreatDoor
open Go.Sim
variable {j:Int} {α:Type} {β:Type} {Q:β->Prop} {A:Nat->Nat->Nat->Prop} {i:Nat} {r:QL} {B:Nat->Nat->Nat->Prop} {self:Qc->Int->Int->Option Int}
def Qrl {p n:Int} (hp:I64 p):Ok (Qfi p n) (λr=>0<=r/\(1<=n->r<n)/\(n<=0->r=0)):=by
 have a:=hp;unfold I64 at a;have key:∀q:Int,0<=q->Ok (if decide (n<1)=true then some 0 else (nz n).bind λ_=>some (Int.tmod q n)) (λr=>0<=r/\(1<=n->r<n)/\(n<=0->r=0)):=λq b=>by
  refine Ok.ite (λh=>?_) (λh=>?_)
  ·have:n<1:=Zt h;exact Ok.mk ⟨Zx _,λh=>by omega,λ_=>rfl⟩
  ·have:¬n<1:=ZA h;rw[nz_of (by omega)];exact Ok.mk ⟨Int.tmod_nonneg _ b,λ_=>Int.tmod_lt_of_pos _ (by omega),λh=>by omega⟩
 unfold Qfi;refine Ok.bind (P:=λq=>0<=q) (Ok.ite (λh=>?_) (λh=>?_)) (λq b=>key q b)
 ·have:p<0:=Zt h;refine Ok.mk ?_;have e1:i64.wrap (p+1)=p+1:=w64 (by omega) (by omega);rw[e1,w64 (by omega) (by omega)];omega
 ·have:¬p<0:=ZA h;exact Ok.mk (by omega)
section
variable {β:Type} {Q:β->Prop}
def Ok.around {p n:Int} {f:Int->Option β} (hp:I64 p) (a:1<=n) (k:∀r,0<=r->r<n->Ok (f r) Q):Ok ((Qfi p n).bind f) Q:=(Qrl hp).bind λr h=>k r h.1 (h.2.1 a)
def MOk (m:QR):Prop:=∀x∈m.L,I64 x
def Ql7 {m:QR} {n:Int} (hm:MOk m) (b:1<=n):Ok (QS m n) (λr=>0<=r.1/\r.1<n/\MOk r.2):=by unfold QS Qd3;refine Ok.bind (P:=λr=>0<=r/\r<n) (Ok.ite (λh=>Ok.mk ⟨Zx _,by omega⟩) (λh=>?_)) (λr a=>Ok.mk ⟨a.1,a.2,hm⟩);simp only[Bool.or_eq_false_iff,ZI] at h;refine Ok.idx (by omega) (by omega) λv d _=>?_;exact Ok.around (hm v d) b λr h0 e=>Ok.mk ⟨h0,e⟩
def Ok.take {m:QR} {n:Int} {f:Int×QR->Option β} (hm:MOk m) (b:1<=n) (k:∀r a,0<=r->r<n->MOk a->Ok (f (r,a)) Q):Ok ((QS m n).bind f) Q:=(Ql7 hm b).bind λr h=>k r.1 r.2 h.1 h.2.1 h.2.2
end
def SN (s:Str):Prop:=s.length<=20/\s.head?≠some 122
def FN (f:Qe):Prop:=SN f.Xj/\SN f.Of/\SN f.Up
def FOk (f:Qe):Prop:=f.Words.length<=6/\f.Xf.length<=6/\FN f
def KOk (n:Nat) (k:QA):Prop:=k.Xb.length<=n/\(∀f∈k.Xb,FOk f)/\SN k.Xj
def Qp8 {l:List Qe} {a:Str} (hl:l.length<=1000):Ok (Qfv l a) (λr=>-1<=r/\r<l.length):=by
 unfold Qfv;refine Ok.bind (P:=λe=>match e with | .inl _=>True | .inr r=>0<=r/\r<l.length) (Ok.loop (λk s=>0<=s/\s+k=l.length) l.length ⟨by omega,by omega⟩ λk s b=>?_) (λe g=>?_)
 ·refine Ok.ite (λh=>?_) (λh=>Ok.mk trivial);have d:s<l.length:=Zt h;refine Ok.idx b.1 d λv _ _=>Ok.ite (λ_=>Ok.mk ⟨b.1,d⟩) (λ_=>Ok.mk ?_);rw[w64 (by omega) (by omega)];exact⟨k - 1,by omega,by omega,by omega⟩
 ·rcases e with e | e
  ·exact Ok.mk ⟨by omega,by omega⟩
  ·exact Ok.mk ⟨by omega,g.2⟩
def QyU {k:QA} (hl:k.Xb.length<=1000):Ok (QgK k) (λr=>-1<=r/\r<k.Xb.length):=by
 unfold QgK;refine Ok.bind (P:=λe=>match e with | .inl _=>True | .inr r=>0<=r/\r<k.Xb.length) (Ok.loop (λn s=>0<=s/\s+n=k.Xb.length) k.Xb.length ⟨by omega,by omega⟩ λn s a=>?_) (λe d=>?_)
 ·refine Ok.ite (λh=>?_) (λh=>Ok.mk trivial);have b:s<k.Xb.length:=Zt h;refine Ok.idx a.1 b λv _ _=>Ok.ite (λ_=>Ok.mk ⟨a.1,b⟩) (λ_=>Ok.mk ?_);rw[w64 (by omega) (by omega)];exact⟨n - 1,by omega,by omega,by omega⟩
 ·rcases e with e | e
  ·exact Ok.mk ⟨by omega,by omega⟩
  ·exact Ok.mk ⟨by omega,d.2⟩
def GOk (n:Nat) (k:QA):Prop:=KOk n k/\1<=k.Xj.length/\k.Xj.length<=6
def GOk.Xo {a b:Nat} {k:QA} (h:GOk a k) (d:a<=b):GOk b k:=⟨⟨by have:=h.1.1;omega,h.1.2⟩,h.2⟩
def QmH {c:Bool} {a b:QR} (h:c=true->MOk a) (k:MOk b):MOk (bif c==true then a else b):=by
 cases c with
 | true=>exact h rfl
 | false=>exact k
def RN (r:QL):Prop:=SN r.Xj/\SN r.Xi/\SN r.A/\SN r.B
def SOk (n:Nat) (x:Qc):Prop:=x.Xa.length<=3/\(∀k∈x.Xa,KOk 14 k)/\x.Xd.length<=1/\(∀m∈x.Xd,m.Xe.length<=6/\m.Xg.length<=8/\SN m.Xj)/\x.Xc.length<=n/\∀r∈x.Xc,RN r
def SOk.Xo {a b:Nat} {x:Qc} (h:SOk a x) (d:a<=b):SOk b x:=⟨h.1,h.2.1,h.2.2.1,h.2.2.2.1,Yo h.2.2.2.2.1 d,h.2.2.2.2.2⟩
def Ok.same {x:Option β} (h:Ok x Q):Ok (x.bind λp=>some p) Q:=h.bind λ_ a=>Ok.mk a
def FZ (f:Qe):Prop:=f.Words.length<=7/\f.Xf.length<=7/\FN f
def KA (l:List QA):Prop:=l.length<=3/\∀k∈l,k.Xb.length<=14/\(∀f∈k.Xb,FZ f)/\SN k.Xj
def LA (l:List Qm):Prop:=l.length<=1/\∀m∈l,m.Xe.length<=7/\m.Xg.length<=9/\SN m.Xj
def RA (l:List QL):Prop:=l.length<=4/\∀r∈l,RN r
def Sz (x:Qc):Prop:=KA x.Xa/\LA x.Xd/\RA x.Xc
def FOk.z {f:Qe} (h:FOk f):FZ f:=⟨by have:=h.1;omega,by have:=h.2.1;omega,h.2.2⟩
def SOk.sz {n:Nat} {x:Qc} (h:SOk n x) (b:n<=4):Sz x:=⟨⟨h.1,λk a=>⟨(h.2.1 k a).1,λf hf=>((h.2.1 k a).2.1 f hf).z,(h.2.1 k a).2.2⟩⟩,⟨h.2.2.1,λm hm=>⟨by have:=(h.2.2.2.1 m hm).1;omega,by have:=(h.2.2.2.1 m hm).2.1;omega,(h.2.2.2.1 m hm).2.2⟩⟩,Yo h.2.2.2.2.1 b,h.2.2.2.2.2⟩
def Qa2 (s:List α) (p:α->Bool):Int:=match s.findIdx? p with | some k=>(k:Int) | none=>-1
def Qf7 (s:List α) (p:α->Bool):-1<=Qa2 s p/\Qa2 s p<s.length:=by
 unfold Qa2
 cases h:s.findIdx? p with
 | none=>exact⟨by decide,by show (-1:Int)<_;omega⟩
 | some k=>have:=(ZY.1 h).1;exact⟨by show (-1:Int)<=(k:Int);omega,by show (k:Int)<_;omega⟩
def Qc6 (s:List α) (p:α->Bool) {body:Int->Option (Int⊕(Unit⊕Int))} (hb:∀k (h:k<s.length),body (k:Int)=if p s[k]=true then some (.inr (.inr (k:Int))) else some (.inl ((k+1:Nat):Int))) (g:body (s.length:Int)=some (.inr (.inl ()))):
  Qr body (0:Int)=some (match s.findIdx? p with | some k=>.inr (k:Int) | none=>.inl ()):=by
 obtain⟨q,b⟩:∃q:Nat->Bool,∀k (h:k<s.length),q k=p s[k]:=⟨λk=>if h:k<s.length then p s[k] else false,λk h=>dif_pos h⟩
 rcases Qk4 (ρ:=Unit⊕Int) s.length q (.inl ()) (λk=>.inr (k:Int))
  (λk a hp=>by rw[hb k a,Zb (by rw[<-b k a,hp];decide)]) (λk a hp=>by rw[hb k a,Zc (by rw[<-b k a,hp])]) g with⟨k,a,hp,l,e⟩ | ⟨hp,e⟩
 ·have:s.findIdx? p=some k:=by
   rw[ZY];refine⟨a,by rw[<-b k a,hp],λj d=>?_⟩;have:=l j d;rw[b j (by omega)] at this;simp[this]
  rw[e,this]
 ·have:s.findIdx? p=none:=by
   rw[findIdx?_eq_none_iff];intro x hx;obtain⟨k,a,rfl⟩:=Ys hx;have:=hp k a
   rwa [b k a] at this
  rw[e,this]
section
variable {p:QA->Bool} {q:Qe->Bool}
def Qrm {s:List QA} {f:QA->Option Bool} (b:s.length<=1000000) (hf:∀x∈s,f x=some (p x)):Qck s f=some (Qa2 s p):=by
 unfold Qck;rw[Qc6 s p (λk a=>?_) ?_]
 ·unfold Qa2;cases s.findIdx? p<;>rfl
 ·rw[Zb (by simp)]
 ·rw[Zc (by simpa using a),QY a];show (f s[k]).bind _=_;rw[hf _ (Zo a),QD a (by omega)];rfl
def Qp9 {s:List Qe} {f:Qe->Option Bool} (b:s.length<=1000000) (hf:∀x∈s,f x=some (q x)):Qca s f=some (Qa2 s q):=by
 unfold Qca;rw[Qc6 s q (λk a=>?_) ?_]
 ·unfold Qa2;cases s.findIdx? q<;>rfl
 ·rw[Zb (by simp)]
 ·rw[Zc (by simpa using a),QY a];show (f s[k]).bind _=_;rw[hf _ (Zo a),QD a (by omega)];rfl
end
def Q3 (x:Qc) (n:Str):Int:=Qa2 x.Xa λk=>k.Xj==n
def Qal (k:QA) (n:Str):Int:=Qa2 k.Xb λf=>f.Xj==n
def QdR {x:Qc} {n:Str} (hx:x.Xa.length<=1000000):QcE x n=some (Q3 x n):=by unfold QcE;rw[Qrm (f:=λx0=>Qh3 x0 n) (p:=λk=>k.Xj==n) hx (λk _=>rfl)];rfl
def Qbk {k:QA} {n:Str} (hx:k.Xb.length<=1000000):Qa4 k n=some (Qal k n):=by unfold Qa4;rw[Qp9 (f:=λx0=>Qhj x0 n) (q:=λk=>k.Xj==n) hx (λk _=>rfl)];rfl
def field? (x:Qc) (k j:Int):Option Qe:=if 0<=k/\0<=j then x.Xa[k.toNat]?.bind λq=>q.Xb[j.toNat]? else none
def QcV:Qe:=Qe.mk [] [] [] 0 0 0 [] []
def QbT {x:Qc} {k:Int} {f:Qe} (h:field? x k j=some f):∃q,0<=k/\0<=j/\idx x.Xa k=some q/\idx q.Xb j=some f/\q∈x.Xa/\k<x.Xa.length/\j<q.Xb.length:=by
 unfold field? at h;split at h
 ·rename_i a;obtain⟨q,b,d⟩:=Yw.1 h;refine⟨q,a.1,a.2,by rw[QeR _ a.1,b],by rw[QeR _ a.2,d],Zl b,?_,?_⟩
  ·have:=(Ze.1 b).1;omega
  ·have:=(Ze.1 d).1;omega
 ·cases h
def Qgz {x:Qc} {k:Int} {q:QA} {f:Qe} (a:0<=k) (b:0<=j) (d:idx x.Xa k=some q) (e:idx q.Xb j=some f):field? x k j=some f:=by rw[QeR _ a] at d;rw[QeR _ b] at e;unfold field?;rw[Zc ⟨a,b⟩,d];exact e
def QcF {l:List α} {i:Int} (h0:0<=i) (b:i<l.length):∃v,idx l i=some v/\v∈l:=by
 have a:i.toNat<l.length:=by omega
 exact⟨l[i.toNat],by rw[QeR l h0,Zd a],Zo a⟩
def Qln (x:Qc) (k j:Int):Qdw x k j=some (match field? x k j with | some f=>(f,true) | none=>(QcV,false)):=by
 unfold Qdw;by_cases d:(0<=k/\k<x.Xa.length)/\0<=j
 ·obtain⟨⟨e,m⟩,g⟩:=d;obtain⟨q,a,_⟩:=QcF e m;have c:((decide (k<0)||decide (k>=(x.Xa.length:Int)))||decide (j<0))=false:=by simp;omega
  rw[c,a];show (if (false||decide (j>=(q.Xb.length:Int)))=true then _ else _)=_;by_cases l:j<q.Xb.length
  ·obtain⟨f,hf,_⟩:=QcF g l;rw[Zb (by simp;omega),Qgz e g a hf];show (idx q.Xb j).bind _=_;rw[hf];rfl
  ·rw[Zc (by simp;omega)];have:field? x k j=none:=by
    cases h:field? x k j with
    | none=>rfl
    | some f=>obtain⟨o,_,_,e1,e2,_,_,b⟩:=QbT h;rw[a] at e1;cases e1;exact (l b).elim
   rw[this];rfl
 ·have c:((decide (k<0)||decide (k>=(x.Xa.length:Int)))||decide (j<0))=true:=by simp;omega
  rw[c];have:field? x k j=none:=by
   cases h:field? x k j with
   | none=>rfl
   | some f=>obtain⟨o,e1,e2,_,_,_,b,_⟩:=QbT h;exact (d ⟨⟨e1,b⟩,e2⟩).elim
  rw[this];rfl
section
variable {α β σ ρ:Type}
def Qdb {l:List α} {k:Nat} {d:α} (h:k<l.length):idx l (k:Int)=some (l.getD k d):=by rw[Qhd,Zh,Zd h];rfl
def QmI (l:List α) (i j:Nat) (x d:α):(l.set i x).getD j d=if j=i/\i<l.length then x else l.getD j d:=by
  rw[Zh,getElem?_set,Zh];by_cases h:i=j
  · subst h;rw[Zc rfl];by_cases a:i<l.length
    · rw[Zc a,Zc ⟨rfl,a⟩];rfl
    · rw[Zb a,Zb (λh=>a h.2),getElem?_eq_none (by omega)]
  · rw[Zb h,Zb (λe=>h e.1.symm)]
def Qju {l:List α} {k:Nat} {d:α} (h:k<l.length):l.getD k d∈l:=by rw[Zh,Zd h];exact Zo h
def Qlo (l:List α) (k:Nat) (x d:α):(l++[x]).getD k d=if k<l.length then l.getD k d else if k=l.length then x else d:=by
  rw[Zh,Zh];by_cases h:k<l.length
  · rw[Zc h,Zv h]
  · rw[Zb h];by_cases a:k=l.length
    · rw[Zc a,a,Zy (Zr _),Nat.sub_self];rfl
    · rw[Zb a,getElem?_eq_none (by simp;omega)];rfl
def Ok.cnt {Q:ρ->Prop} {body:Int×σ->Option ((Int×σ)⊕ρ)} {s0:σ} (n:Nat) (I:Nat->σ->Prop) (h0:I 0 s0)
    (g:∀i s,i<n->I i s->Ok (body ((i:Int),s)) (λo=>match o with | .inl p=>p.1=((i+1:Nat):Int)/\I (i+1) p.2 | .inr r=>Q r))
    (l:∀s,I n s->Ok (body ((n:Int),s)) (λo=>match o with | .inl _=>False | .inr r=>Q r)):Ok (Qr body ((0:Int),s0)) Q:=by
  refine Ok.loop (λk s=>∃i:Nat,s.1=i/\i+k=n+1/\i<=n/\I i s.2) (n+1) ⟨0,rfl,by omega,by omega,h0⟩ λk s m=>?_;obtain⟨i,e,t,u,d⟩:=m;obtain⟨a,s⟩:=s;dsimp only at e d;subst e;by_cases h:i<n
  · refine (g i s h d).Xo λo b=>?_
    cases o with
    | inl p=>exact⟨n - i,by omega,i+1,b.1,by omega,by omega,b.2⟩
    | inr r=>exact b
  · have:i=n:=by omega
    subst this;refine (l s d).Xo λo b=>?_
    cases o with
    | inl p=>exact b.elim
    | inr r=>exact b
def Ok.cnt0 {Q:ρ->Prop} {body:Int->Option (Int⊕ρ)} (n:Nat) (I:Nat->Prop) (h0:I 0)
    (d:∀i,i<n->I i->Ok (body (i:Int)) (λo=>match o with | .inl p=>p=((i+1:Nat):Int)/\I (i+1) | .inr r=>Q r))
    (g:I n->Ok (body (n:Int)) (λo=>match o with | .inl _=>False | .inr r=>Q r)):Ok (Qr body (0:Int)) Q:=by
  refine Ok.loop (λk s=>∃i:Nat,s=(i:Int)/\i+k=n+1/\i<=n/\I i) (n+1) ⟨0,rfl,by omega,by omega,h0⟩ λk s l=>?_;obtain⟨i,e,m,t,b⟩:=l;subst e;by_cases h:i<n
  · refine (d i h b).Xo λo a=>?_
    cases o with
    | inl p=>exact⟨n - i,by omega,i+1,a.1,by omega,by omega,a.2⟩
    | inr r=>exact a
  · have:i=n:=by omega
    subst this;refine (g b).Xo λo a=>?_
    cases o with
    | inl p=>exact a.elim
    | inr r=>exact a
def Ok.eq {Q:β->Prop} {x:Option β} {r:β} (h:x=some r) (k:Q r):Ok x Q:=⟨r,h,k⟩
def Ok.some_bind {Q:β->Prop} {x:Option α} {r:α} {f:α->Option β} (h:x=some r) (k:Ok (f r) Q):Ok (x.bind f) Q:=by rw[h];exact k
end
def QaC {a b:Nat} (h:a<b) (x y:α):(if decide ((a:Int)<(b:Int))=true then x else y)=x:=Zc (by simpa using h)
def QaE {b:Nat} (x y:α):(if decide ((b:Int)<(b:Int))=true then x else y)=y:=Zb (by simp)
abbrev Wd:=List (List (List Int))
variable {W:Wd}
def g1 (W:Wd) (k:Nat):List (List Int):=W.getD k []
def g2 (W:Wd) (k i:Nat):List Int:=(g1 W k).getD i []
def g3 (W:Wd) (k i f:Nat):Int:=(g2 W k i).getD f 0
def s3 (W:Wd) (k i f:Nat) (v:Int):Wd:=W.set k ((g1 W k).set i ((g2 W k i).set f v))
structure Sh (n:Nat) (c nf:Nat->Nat) (W:Wd):Prop where
  len:W.length=n
  row:∀k,k<n->(g1 W k).length=c k
  fld:∀k i,k<n->i<c k->(g2 W k i).length=nf k
section
variable {n:Nat} {c nf:Nat->Nat} {W:Wd} {k i f:Nat} {v:Int}
def Sh.i1 (h:Sh n c nf W) (a:k<n):idx W (k:Int)=some (g1 W k):=Qdb (by rw[h.len];exact a)
def Sh.i2 (h:Sh n c nf W) (a:k<n) (hi:i<c k):idx (g1 W k) (i:Int)=some (g2 W k i):=Qdb (by rw[h.row k a];exact hi)
def Sh.i3 (h:Sh n c nf W) (a:k<n) (hi:i<c k) (hf:f<nf k):idx (g2 W k i) (f:Int)=some (g3 W k i f):=Qdb (by rw[h.fld k i a hi];exact hf)
def g1_s3 (b:k<W.length) (a:Nat):g1 (s3 W k i f v) a=if a=k then (g1 W k).set i ((g2 W k i).set f v) else g1 W a:=by
  unfold s3 g1;rw[QmI];by_cases h:a=k
  · rw[Zc ⟨h,b⟩,Zc h]
  · rw[Zb (λe=>h e.1),Zb h]
def g2_s3 (g:k<W.length) (hi:i<(g1 W k).length) (a b:Nat):g2 (s3 W k i f v) a b=if a=k/\b=i then (g2 W k i).set f v else g2 W a b:=by
  rw[g2,g1_s3 g];by_cases h:a=k
  · rw[Zc h,QmI];by_cases d:b=i
    · rw[Zc ⟨d,hi⟩,Zc ⟨h,d⟩]
    · rw[Zb (λe=>d e.1),Zb (λe=>d e.2),h];rfl
  · rw[Zb h,Zb (λe=>h e.1)];rfl
def Sh.g3s (h:Sh n c nf W) (m:k<n) (hi:i<c k) (hf:f<nf k) (b d g:Nat):g3 (s3 W k i f v) b d g=if b=k/\d=i/\g=f then v else g3 W b d g:=by
  rw[g3,g2_s3 (by rw[h.len];exact m) (by rw[h.row k m];exact hi)];by_cases a:b=k/\d=i
  · rw[Zc a,QmI];by_cases l:g=f
    · rw[Zc ⟨l,by rw[h.fld k i m hi];exact hf⟩,Zc ⟨a.1,a.2,l⟩]
    · rw[Zb (λe=>l e.1),Zb (λe=>l e.2.2),a.1,a.2];rfl
  · rw[Zb a,Zb (λe=>a ⟨e.1,e.2.1⟩)];rfl
def Sh.s (h:Sh n c nf W) (g:k<n) (hi:i<c k):Sh n c nf (s3 W k i f v):=by
  have b:k<W.length:=by rw[h.len];exact g
  have l:i<(g1 W k).length:=by rw[h.row k g];exact hi
  refine⟨by unfold s3;rw[ZH,h.len],λd a=>?_,λd o a m=>?_⟩
  · rw[g1_s3 b];by_cases e:d=k
    · rw[Zc e,ZH,e,h.row k g]
    · rw[Zb e,h.row d a]
  · rw[g2_s3 b l];by_cases e:d=k/\o=i
    · rw[Zc e,ZH,h.fld k i g hi,e.1]
    · rw[Zb e,h.fld d o a m]
section
variable {β:Type} {Q:β->Prop}
def Ok.g1 {G:List (List Int)->Option β} (h:Sh n c nf W) (a:k<n) (q:Ok (G (g1 W k)) Q):Ok ((idx W (k:Int)).bind G) Q:=Ok.some_bind (h.i1 a) q
def Ok.g2 {G:List Int->Option β} (h:Sh n c nf W) (a:k<n) (hi:i<c k) (q:Ok (G (g2 W k i)) Q):Ok ((idx (Go.Proofs.YtmhcoofnnmiejaaGreatDoor.g1 W k) (i:Int)).bind G) Q:=Ok.some_bind (h.i2 a hi) q
def Ok.g3 {G:Int->Option β} (h:Sh n c nf W) (a:k<n) (hi:i<c k) (hf:f<nf k) (q:Ok (G (g3 W k i f)) Q):Ok ((idx (Go.Proofs.YtmhcoofnnmiejaaGreatDoor.g2 W k i) (f:Int)).bind G) Q:=Ok.some_bind (h.i3 a hi hf) q
def put_is (h:Sh n c nf W) (a:k<n) (hi:i<c k) (hf:f<nf k) (G:Wd->Option β):
    ((setAt (Go.Proofs.YtmhcoofnnmiejaaGreatDoor.g2 W k i) (f:Int) v).bind λm=>(setAt (Go.Proofs.YtmhcoofnnmiejaaGreatDoor.g1 W k) (i:Int) m).bind λb=>(setAt W (k:Int) b).bind G)=G (s3 W k i f v):=by
  rw[QdQ (by rw[h.fld k i a hi];exact hf)];simp only[Za];rw[QdQ (by rw[h.row k a];exact hi)];simp only[Za];rw[QdQ (by rw[h.len];exact a)];rfl
def Ok.put {G:Wd->Option β} (h:Sh n c nf W) (a:k<n) (hi:i<c k) (hf:f<nf k) (q:Ok (G (s3 W k i f v)) Q):
    Ok ((setAt (Go.Proofs.YtmhcoofnnmiejaaGreatDoor.g2 W k i) (f:Int) v).bind λm=>(setAt (Go.Proofs.YtmhcoofnnmiejaaGreatDoor.g1 W k) (i:Int) m).bind λb=>(setAt W (k:Int) b).bind G) Q:=by
  rw[put_is h a hi hf];exact q
end
end
def Kp (A:Nat->Nat->Nat->Prop) (W a:Wd):Prop:=∀k i f,¬A k i f->g3 a k i f=g3 W k i f
def Kp.refl (A:Nat->Nat->Nat->Prop) (W:Wd):Kp A W W:=λ_ _ _ _=>rfl
def Kp.trans {V U:Wd} (h:Kp A W V) (b:Kp B V U):Kp (λk i f=>A k i f\/B k i f) W U:=λk i f a=>(b k i f λe=>a (.inr e)).trans (h k i f λe=>a (.inl e))
def Kp.Xo {V:Wd} (h:Kp A W V) (a:∀k i f,A k i f->B k i f):Kp B W V:=λk i f b=>h k i f λe=>b (a k i f e)
def Kp.step {A:Nat->Nat->Nat->Prop} {W V U:Wd} (h:Kp A W V) (b:Kp A V U):Kp A W U:=λk i f a=>(b k i f a).trans (h k i f a)
def Sh.kp {n:Nat} {c nf:Nat->Nat} {k f:Nat} {v:Int} (h:Sh n c nf W) (a:k<n) (hi:i<c k) (hf:f<nf k) (ha:A k i f):Kp A W (s3 W k i f v):=λd e g b=>by rw[h.g3s a hi hf,Zb];rintro ⟨rfl,rfl,rfl⟩;exact b ha
def Few (x:Qc):Prop:=x.Xa.length<=1000/\∀k∈x.Xa,k.Xb.length<=1000
def Sz.few {x:Qc} (h:Sz x):Few x:=⟨by have:=h.1.1;omega,λk a=>by have:=(h.1.2 k a).1;omega⟩
def QjN (x:Qc) (k:Int) (g:Qe):Int:=if Q3 x g.Of<k then Q3 x g.Of else -1
def upIx (x:Qc) (k j:Int):Int:=
 match field? x k j with
 | none=>-1
 | some f=>
  if f.Xi=7\/f.Xi=8 then
   match idx x.Xa k with
   | none=>-1
   | some q=>if Qal q f.Up<j then (match field? x k (Qal q f.Up) with | some g=>if g.Xi=1 then QjN x k g else -1 | none=>-1) else -1
  else if f.Xi=1 then QjN x k f else -1
def Qvk {x:Qc} {k:Int} {g:Qe} (hx:Few x) (h:field? x k j=some g) (a:g.Xi=1):QeM self x k j=some (QjN x k g):=by
 unfold QeM;rw[Qln,h];simp only[Za,Bool.not_true,a];rw[Zb (by decide),Zb (by decide),Zb (by decide),QdR (by have:=hx.1;omega)];simp only[Za,QjN];by_cases hl:Q3 x g.Of<k
 ·rw[Zc (by simpa using hl),Zc hl]
 ·rw[Zb (by simpa using hl),Zb hl]
def upS_is {x:Qc} {k:Int} (hx:Few x) (e:∀u g,field? x k u=some g->g.Xi=1->self x k u=some (QjN x k g)):QeM self x k j=some (upIx x k j):=by
 cases hf:field? x k j with
 | none=>unfold QeM upIx;rw[Qln,hf];rfl
 | some f=>
  by_cases b:f.Xi=1
  ·rw[Qvk hx hf b];unfold upIx;rw[hf];simp[b]
  unfold QeM upIx;rw[Qln,hf];simp only[Za,Bool.not_true];rw[Zb (by decide)];by_cases c:f.Xi=7\/f.Xi=8
  ·obtain⟨q,o,s,h,l,d,_,_⟩:=QbT hf;rw[Zc (by simpa using c),Zc c,h];simp only[Za];rw[Qbk (by have:=hx.2 q d;omega)];simp only[Za];rw[Qln];simp only[Za]
   cases m:field? x k (Qal q f.Up) with
   | none=>simp
   | some g=>
    simp only;by_cases hu:Qal q f.Up<j
    ·by_cases a:g.Xi=1
     ·rw[Zc (by simp[hu,a]),e _ g m a,Zc hu,Zc a];rfl
     ·rw[Zb (by simp[a]),Zc hu,Zb a]
    ·rw[Zb (by simp[hu]),Zb hu]
  ·rw[Zb (by simpa using c),Zb c,Zc (by simpa using b),Zb b]
def Qfa {x:Qc} {k:Int} (hx:Few x):Qdx x k j=some (upIx x k j):=by unfold Qdx;exact upS_is hx λu g h a=>Qvk hx h a
def Qrn (p:Nat->Bool) (k:Nat):((range (k+1)).filter p).map Int.ofNat=if p k=true then ((range k).filter p).map Int.ofNat++[(k:Int)] else ((range k).filter p).map Int.ofNat:=by
 rw[Yp,filter_append,Yz];by_cases h:p k=true
 ·rw[Zc h];simp[h]
 ·rw[Zb h];simp[h]
def Qtl (p:Nat->Bool) (k:Nat):(((range k).filter p).map Int.ofNat).length<=k:=by rw[Yd];have:=length_filter_le p (range k);simpa using this
def Qf8 (x:Qc) (o k:Int) (a:Str) (b:List Qe) (i:Nat):Bool:=match b[i]? with | some g=>g.Xi==7&&g.Of==a&&upIx x o (i:Int)==k | none=>false
def shl (x:Qc) (o k:Int) (a:Str):List Int:=match idx x.Xa o with | some q=>((range q.Xb.length).filter (Qf8 x o k a q.Xb)).map Int.ofNat | none=>[]
def QfP (x:Qc) (k:Int) (f:Qe):Int×List Int:=if f.Xi≠6\/Q3 x f.Of<=k then (-1,[]) else (Q3 x f.Of,shl x (Q3 x f.Of) k f.Xj)
def Qgj (x:Qc) (n:Str):-1<=Q3 x n/\Q3 x n<x.Xa.length:=Qf7 _ _
def Qro {x:Qc} {k:Int} {f:Qe} (hx:Few x) (m:0<=k):QeO x k f=some (QfP x k f):=by
 unfold QeO;rw[QdR (by have:=hx.1;omega)];simp only[Za];unfold QfP;by_cases c:f.Xi≠6\/Q3 x f.Of<=k
 ·rw[Zc (by simpa using c),Zc c]
 rw[Zb (by simpa using c),Zb c];have o:k<Q3 x f.Of:=by
  rcases Int.lt_or_le k (Q3 x f.Of) with h | h
  ·exact h
  ·exact (c (.inr h)).elim
 obtain⟨q,d,b⟩:=QcF (l:=x.Xa) (i:=Q3 x f.Of) (by omega) (Qgj x f.Of).2;have hl:=hx.2 q b;rw[d];simp only[Za];refine QdA q.Xb.length (λn=>((n:Int),((range n).filter (Qf8 x (Q3 x f.Of) k f.Xj q.Xb)).map Int.ofNat)) _ rfl (λn a=>?_) (Zb (by simp)) ?_
 ·rw[Zc (by simpa using a),QY a];simp only[Za];rw[Qfa hx];have e:Qf8 x (Q3 x f.Of) k f.Xj q.Xb n=(q.Xb[n].Xi==7&&q.Xb[n].Of==f.Xj&&upIx x (Q3 x f.Of) (n:Int)==k):=by
   unfold Qf8;rw[Zd a]
  have g:=Qtl (Qf8 x (Q3 x f.Of) k f.Xj q.Xb) n;rw[Qrn,e,QD a (by omega)]
  cases s:(q.Xb[n].Xi==7&&q.Xb[n].Of==f.Xj) with
  | false=>rfl
  | true=>
   simp only[Sim.opt,Bool.true_and,if_true,beq_self_eq_true,Za]
   cases t:upIx x (Q3 x f.Of) (n:Int)==k with
   | false=>rfl
   | true=>rw[Zc rfl,Zc rfl,QdX (by rw[length_singleton];omega)];rfl
 ·unfold shl;rw[d]
def QkD (x:Qc) (k j:Int):Int×Int:=match field? x k j with | none=>(-1,-1) | some f=>match (QfP x k f).2 with | [a]=>((QfP x k f).1,a) | _=>(-1,-1)
def QBp (l:List Int) (o:Int) (g:Int×Int->β):(if ((l.length:Int) !=1)=true then some (g (-1,-1)) else (idx l 0).bind λt=>some (g (o,t)))=some (g (match l with | [a]=>(o,a) | _=>(-1,-1))):=by
 match l with
 | []=>rfl
 | [a]=>rfl
 | a::b::l=>rw[Zc (by simp;omega)]
def Qfb (s:List α) (p:α->Bool):decide (Qa2 s p>=0)=s.any p:=by
 unfold Qa2
 cases h:s.findIdx? p with
 | none=>have:=findIdx?_eq_none_iff.1 h;rw[Eq.comm,any_eq_false.2 (λx hx=>by simp[this x hx])];rfl
 | some k=>obtain⟨a,hp,_⟩:=ZY.1 h;rw[Eq.comm,Yl.2 ⟨_,Zo a,hp⟩,Eq.comm];exact decide_eq_true (Int.natCast_nonneg k)
def Qjv (s:List α) (p:α->Bool):(!s.any λx=>!p x)=s.all p:=by
 induction s with
 | nil=>rfl
 | cons a s b=>simp only[any_cons,all_cons,Bool.not_or,Bool.not_not,b]
def Qrp {s:List Qm} {f:Qm->Option Bool} {p:Qm->Bool} (b:s.length<=1000000) (hf:∀x∈s,f x=some (p x)):Qcl s f=some (Qa2 s p):=by
 unfold Qcl;rw[Qc6 s p (λk a=>?_) ?_]
 ·unfold Qa2;cases s.findIdx? p<;>rfl
 ·rw[Zb (by simp)]
 ·rw[Zc (by simpa using a),QY a];show (f s[k]).bind _=_;rw[hf _ (Zo a),QD a (by omega)];rfl
def QyV {s:List QL} {f:QL->Option Bool} {p:QL->Bool} (b:s.length<=1000000) (hf:∀x∈s,f x=some (p x)):Qc2 s f=some (Qa2 s p):=by
 unfold Qc2;rw[Qc6 s p (λk a=>?_) ?_]
 ·unfold Qa2;cases s.findIdx? p<;>rfl
 ·rw[Zb (by simp)]
 ·rw[Zc (by simpa using a),QY a];show (f s[k]).bind _=_;rw[hf _ (Zo a),QD a (by omega)];rfl
def QyW {s:List Int} {f:Int->Option Bool} {p:Int->Bool} (b:s.length<=1000000) (hf:∀x∈s,f x=some (p x)):Qc1 s f=some (Qa2 s p):=by
 unfold Qc1;rw[Qc6 s p (λk a=>?_) ?_]
 ·unfold Qa2;cases s.findIdx? p<;>rfl
 ·rw[Zb (by simp)]
 ·rw[Zc (by simpa using a),QY a];show (f s[k]).bind _=_;rw[hf _ (Zo a),QD a (by omega)];rfl
def Quj {s:List Str} {f:Str->Option Bool} {p:Str->Bool} (b:s.length<=1000000) (hf:∀x∈s,f x=some (p x)):QcC s f=some (Qa2 s p):=by
 unfold QcC;rw[Qc6 s p (λk a=>?_) ?_]
 ·unfold Qa2;cases s.findIdx? p<;>rfl
 ·rw[Zb (by simp)]
 ·rw[Zc (by simpa using a),QY a];show (f s[k]).bind _=_;rw[hf _ (Zo a),QD a (by omega)];rfl
def Quk {s:List Qar} {f:Qar->Option Bool} {p:Qar->Bool} (b:s.length<=1000000) (hf:∀x∈s,f x=some (p x)):QcD s f=some (Qa2 s p):=by
 unfold QcD;rw[Qc6 s p (λk a=>?_) ?_]
 ·unfold Qa2;cases s.findIdx? p<;>rfl
 ·rw[Zb (by simp)]
 ·rw[Zc (by simpa using a),QY a];show (f s[k]).bind _=_;rw[hf _ (Zo a),QD a (by omega)];rfl
def Qtm {s:List QA} {f:QA->Option Bool} {p:QA->Bool} (a:s.length<=1000000) (hf:∀x∈s,f x=some (p x)):Qcs s f=some (s.any p):=by unfold Qcs;rw[Qrm a hf,<-Qfb];rfl
def QFc {s:List QA} {f:QA->Option Bool} {p:QA->Bool} (a:s.length<=1000000) (hf:∀x∈s,f x=some (p x)):QeV s f=some (s.all p):=by unfold QeV;rw[Qtm (p:=λx=>!p x) a (λx hx=>by show (f x).bind _=_;rw[hf x hx];rfl),<-Qjv];rfl
def QrV {s:List Qe} {f:Qe->Option Bool} {p:Qe->Bool} (a:s.length<=1000000) (hf:∀x∈s,f x=some (p x)):Qch s f=some (s.any p):=by unfold Qch;rw[Qp9 a hf,<-Qfb];rfl
def QBq {s:List Qe} {f:Qe->Option Bool} {p:Qe->Bool} (a:s.length<=1000000) (hf:∀x∈s,f x=some (p x)):Qet s f=some (s.all p):=by unfold Qet;rw[QrV (p:=λx=>!p x) a (λx hx=>by show (f x).bind _=_;rw[hf x hx];rfl),<-Qjv];rfl
def Qk5 {s:List Qm} {f:Qm->Option Bool} {p:Qm->Bool} (a:s.length<=1000000) (hf:∀x∈s,f x=some (p x)):Qbp s f=some (s.any p):=by unfold Qbp;rw[Qrp a hf,<-Qfb];rfl
def QFd {s:List Qm} {f:Qm->Option Bool} {p:Qm->Bool} (a:s.length<=1000000) (hf:∀x∈s,f x=some (p x)):QeX s f=some (s.all p):=by unfold QeX;rw[Qk5 (p:=λx=>!p x) a (λx hx=>by show (f x).bind _=_;rw[hf x hx];rfl),<-Qjv];rfl
def QnK {s:List QL} {f:QL->Option Bool} {p:QL->Bool} (a:s.length<=1000000) (hf:∀x∈s,f x=some (p x)):QbN s f=some (s.any p):=by unfold QbN;rw[QyV a hf,<-Qfb];rfl
def QFe {s:List QL} {f:QL->Option Bool} {p:QL->Bool} (a:s.length<=1000000) (hf:∀x∈s,f x=some (p x)):QeZ s f=some (s.all p):=by unfold QeZ;rw[QnK (p:=λx=>!p x) a (λx hx=>by show (f x).bind _=_;rw[hf x hx];rfl),<-Qjv];rfl
def Qtn {s:List Int} {f:Int->Option Bool} {p:Int->Bool} (a:s.length<=1000000) (hf:∀x∈s,f x=some (p x)):Qct s f=some (s.any p):=by unfold Qct;rw[QyW a hf,<-Qfb];rfl
def QqO {s:List Str} {f:Str->Option Bool} {p:Str->Bool} (a:s.length<=1000000) (hf:∀x∈s,f x=some (p x)):Qb4 s f=some (s.any p):=by unfold Qb4;rw[Quj a hf,<-Qfb];rfl
def QnL {s:List Str} {f:Str->Option Bool} {p:Str->Bool} (a:s.length<=1000000) (hf:∀x∈s,f x=some (p x)):Qdh s f=some (s.all p):=by unfold Qdh;rw[QqO (p:=λx=>!p x) a (λx hx=>by show (f x).bind _=_;rw[hf x hx];rfl),<-Qjv];rfl
def Ql8 {s:List Qar} {f:Qar->Option Bool} {p:Qar->Bool} (a:s.length<=1000000) (hf:∀x∈s,f x=some (p x)):QbD s f=some (s.any p):=by unfold QbD;rw[Quk a hf,<-Qfb];rfl
def QyX {s:List Qar} {f:Qar->Option Bool} {p:Qar->Bool} (a:s.length<=1000000) (hf:∀x∈s,f x=some (p x)):Qd6 s f=some (s.all p):=by unfold Qd6;rw[Ql8 (p:=λx=>!p x) a (λx hx=>by show (f x).bind _=_;rw[hf x hx];rfl),<-Qjv];rfl
def inW (n a b:Int):Bool:=decide (n>=a)&&decide (n<=b)
def Qdi {n a b:Int} (h:inW n a b=true):a<=n/\n<=b:=by simpa[inW] using h
def QcZ (c:Int):Bool:=inW c 97 122
def Qg1 (c:Int):Bool:=inW c 48 57
def QeG (lo hi a b:Int):Bool:=(decide (lo>=a)&&decide (lo<=hi))&&decide (hi<=b)
def QX (s:Str):Bool:=inW (s.length:Int) 1 12&&(QcZ ((s.headD 0).toNat:Int)&&(Qab s).all λc=>QcZ c||Qg1 c)
def Qgk (s:Str):QaI s=some (QX s):=by
 unfold QaI QX
 cases s with
 | nil=>rfl
 | cons c s=>
  show (some (inW ((c::s).length:Int) 1 12)).bind _=_;simp only[Za]
  cases h:inW ((c::s).length:Int) 1 12 with
  | false=>rfl
  | true=>
   have hl:=(Qdi h).2;rw[show idx (c::s) (0:Int)=some c from rfl];simp only[Sim.opt,Bool.not_true,beq_self_eq_true,if_true,Za];rw[show QeW (c.toNat:Int)=some (QcZ (c.toNat:Int)) from rfl];simp only[Za]
   cases a:QcZ (c.toNat:Int) with
   | false=>simp[a]
   | true=>
    rw[Zb (by decide),Qtn (p:=λc=>!(QcZ c||Qg1 c)) (by simp only[Qab,Yd];omega) (λx _=>?_)]
    ·simp only[Za];rw[Qjv];simp[a]
    ·show (some (QcZ x)).bind _=_;simp only[Za]
     cases b:QcZ x with
     | true=>rfl
     | false=>show some (true&&!Qg1 x)=_;rfl
def QBr {a b:List Str} (ha:a.length<=1000000):Qdv a b=some (decide (a=b)):=by
 unfold Qdv;by_cases hl:a.length=b.length
 ·rw[Zb (by simp[hl])];have:Ok ((Qr (λ(l:Int)=>((if (decide (l<(a.length:Int)))=true then (idx a l).bind λt18=>(idx b l).bind λt22=>(if (t18 !=t22)=true then (some (.inr (.inr false))) else (some (.inl (i64.wrap (l+(1:Int)))))) else (some (.inr (.inl ())))):Option ((Int)⊕((Unit)⊕(Bool))))) (0:Int)).bind λ(x:(Unit)⊕(Bool))=>(match x with | .inl _=>(some true) | .inr t=>(some t))) (λr=>r=decide (a=b)):=by
   refine Ok.bind (P:=λe:Unit⊕Bool=>(match e with | .inl _=>true | .inr p=>p)=decide (a=b)) (Ok.loop (λm s=>0<=s/\s+m=a.length/\a.take s.toNat=b.take s.toNat) a.length ⟨Zx _,by omega,by simp⟩ λm s y=>?_) λe z=>by cases e<;>exact Ok.mk z
   obtain⟨C,E,o⟩:=y;obtain⟨k,rfl⟩:=ZG C;simp only[ZF] at o;refine Ok.ite (λu=>?_) (λu=>?_)
   ·have d:k<a.length:=by simpa using u
    rw[QY d,QY (by omega)];simp only[Za];refine Ok.ite (λhne=>Ok.mk ?_) (λw=>Ok.mk ⟨m - 1,by omega,?_⟩)
    ·show false=_;rw[Eq.comm,ZI];rintro rfl;simp at hne
    ·have g:a[k]=b[k]:=by simpa using w
     rw[QD d (by omega)];refine⟨by omega,by omega,?_⟩;rw[ZF,Zw d,Zw (by omega),o,g]
   ·have d:¬k<a.length:=by simpa using u
    refine Ok.mk ?_;show true=_;rw[Zu (by omega),Zu (by omega)] at o;simp[o]
  obtain⟨r,D,rfl⟩:=this;exact D
 ·rw[Zc (by simp;omega)];have:a≠b:=λh=>hl (by rw[h]);simp[this]
def eqInt {a b:List Int} (ha:a.length<=1000000):Qeu a b=some (decide (a=b)):=by
 unfold Qeu;by_cases hl:a.length=b.length
 ·rw[Zb (by simp[hl])];have:Ok ((Qr (λ(l:Int)=>((if (decide (l<(a.length:Int)))=true then (idx a l).bind λt18=>(idx b l).bind λt22=>(if (t18 !=t22)=true then (some (.inr (.inr false))) else (some (.inl (i64.wrap (l+(1:Int)))))) else (some (.inr (.inl ())))):Option ((Int)⊕((Unit)⊕(Bool))))) (0:Int)).bind λ(x:(Unit)⊕(Bool))=>(match x with | .inl _=>(some true) | .inr t=>(some t))) (λr=>r=decide (a=b)):=by
   refine Ok.bind (P:=λe:Unit⊕Bool=>(match e with | .inl _=>true | .inr p=>p)=decide (a=b)) (Ok.loop (λm s=>0<=s/\s+m=a.length/\a.take s.toNat=b.take s.toNat) a.length ⟨Zx _,by omega,by simp⟩ λm s y=>?_) λe z=>by cases e<;>exact Ok.mk z
   obtain⟨C,E,o⟩:=y;obtain⟨k,rfl⟩:=ZG C;simp only[ZF] at o;refine Ok.ite (λu=>?_) (λu=>?_)
   ·have d:k<a.length:=by simpa using u
    rw[QY d,QY (by omega)];simp only[Za];refine Ok.ite (λhne=>Ok.mk ?_) (λw=>Ok.mk ⟨m - 1,by omega,?_⟩)
    ·show false=_;rw[Eq.comm,ZI];rintro rfl;simp at hne
    ·have g:a[k]=b[k]:=by simpa using w
     rw[QD d (by omega)];refine⟨by omega,by omega,?_⟩;rw[ZF,Zw d,Zw (by omega),o,g]
   ·have d:¬k<a.length:=by simpa using u
    refine Ok.mk ?_;show true=_;rw[Zu (by omega),Zu (by omega)] at o;simp[o]
  obtain⟨r,D,rfl⟩:=this;exact D
 ·rw[Zc (by simp;omega)];have:a≠b:=λh=>hl (by rw[h]);simp[this]
def QyY (l:List Int) {k:Nat} (h:k<l.length):(l.take (k+1)).sum=(l.take k).sum+l[k]:=by rw[Zw h,sum_append];simp
def Qi9 (a:List Str) (b:List Int):Bool:=(b.all λg=>inW g 0 1048576)&&(((inW (a.length:Int) 1 12&&((a.length:Int)==(b.length:Int)))&&decide (b.sum>0))&&a.all QX)
def Qrq {d:List Str} {a:List Int} (z:d.length<=1000000) (K:a.length<=1000000):QdO d a=some (Qi9 d a):=by
  have key:Ok (QdO d a) (λr=>r=Qi9 d a):=by
    unfold QdO;refine Ok.bind (P:=λe:Int⊕Bool=>match e with | .inl s=>(a.all λg=>inW g 0 1048576)=true/\s=a.sum | .inr p=>p=false/\(a.all λg=>inW g 0 1048576)=false)
      (Ok.loop (λm s=>0<=s.1/\s.1+m=a.length/\((a.take s.1.toNat).all λg=>inW g 0 1048576)=true/\s.2=(a.take s.1.toNat).sum/\0<=s.2/\s.2<=s.1 * 1048576) a.length ⟨Zx _,by dsimp only;omega,by simp,by simp,by simp,by simp⟩ λm s C=>?_) λe w=>?_
    · obtain⟨i,t⟩:=s;obtain⟨y,D,h,l,E,F⟩:=C;dsimp only at y D h l E F;obtain⟨k,rfl⟩:=ZG y;simp only[ZF] at h l;refine Ok.ite (λu=>?_) (λu=>?_)
      · have b:k<a.length:=by simpa using u
        dsimp only;rw[QY b];simp only[Za];show Ok ((some (inW a[k] 0 1048576)).bind _) _;simp only[Za];refine Ok.ite (λH=>Ok.mk ⟨rfl,?_⟩) (λhy=>Ok.mk ⟨m - 1,by omega,?_⟩)
        · rw[all_eq_false];exact⟨_,Zo b,by simpa using H⟩
        · have o:inW a[k] 0 1048576=true:=by simpa using hy
          have hb:=Qdi o;dsimp only;rw[QD b (by omega),w64 (n:=t+a[k]) (by omega) (by omega)];refine⟨by omega,by omega,?_,?_,by omega,by omega⟩
          · rw[ZF,Zw b,all_append,h];simp[o]
          · rw[ZF,QyY a b,l]
      · have b:¬k<a.length:=by simpa using u
        rw[Zu (by omega)] at h l;exact Ok.mk ⟨h,l⟩
    · cases e with
      | inr p=>obtain⟨rfl,hp⟩:=w;refine Ok.mk ?_;unfold Qi9;rw[hp];rfl
      | inl s=>
        obtain⟨hp,rfl⟩:=w;dsimp only;show Ok ((some (inW (d.length:Int) 1 12)).bind _) _;simp only[Za];rw[QnL (p:=QX) z (λx _=>Qgk x)];unfold Qi9;rw[hp,Bool.true_and]
        cases (inW (d.length:Int) 1 12&&((d.length:Int)==(a.length:Int)))&&decide (a.sum>0) with
        | false=>exact Ok.mk rfl
        | true=>exact Ok.mk rfl
  obtain⟨r,I,rfl⟩:=key;exact I
def Qdl (f:Qe):Qe:=
  if f.Xi=0 then ⟨f.Xj,[],[],f.Xi,f.Lo,0,[],[]⟩
  else if f.Xi=1\/f.Xi=4\/f.Xi=5 then ⟨f.Xj,f.Of,[],f.Xi,f.Lo,f.Hi,[],[]⟩
  else if f.Xi=2 then ⟨f.Xj,[],[],f.Xi,f.Lo,f.Hi,[],[]⟩
  else if f.Xi=3 then ⟨f.Xj,[],[],f.Xi,0,0,f.Words,f.Xf⟩
  else if f.Xi=6 then ⟨f.Xj,f.Of,[],f.Xi,0,0,[],[]⟩
  else if f.Xi=7 then ⟨f.Xj,f.Of,f.Up,f.Xi,f.Lo,f.Hi,[],[]⟩
  else if f.Xi=8 then ⟨f.Xj,f.Of,f.Up,f.Xi,0,0,[],[]⟩
  else ⟨f.Xj,[],[],f.Xi,0,0,[],[]⟩
def QFf (f:Qe):Qhz f=some (Qdl f):=by
  obtain⟨n,o,u,k,lo,hi,w,g⟩:=f;unfold Qhz Qdl;by_cases h0:k=0
  · subst h0;rfl
  by_cases a:k=1
  · subst a;rfl
  by_cases b:k=4
  · subst b;rfl
  by_cases d:k=5
  · subst d;rfl
  by_cases e:k=2
  · subst e;rfl
  by_cases h:k=3
  · subst h;rfl
  by_cases l:k=6
  · subst l;rfl
  by_cases m:k=7
  · subst m;rfl
  by_cases s:k=8
  · subst s;rfl
  simp[h0,a,e,h,b,d,l,m,s]
def QdB (a b:Qe):Bool:=(((((((a.Xj==b.Xj)&&(a.Of==b.Of))&&(a.Up==b.Up))&&(a.Xi==b.Xi))&&(a.Lo==b.Lo))&&(a.Hi==b.Hi))&&decide (a.Words=b.Words))&&decide (a.Xf=b.Xf)
def Qto {a b:Qe} (d:a.Words.length<=1000000) (e:a.Xf.length<=1000000):Qev a b=some (QdB a b):=by
  unfold Qev QdB;rw[QBr d,eqInt e]
  cases ((((((a.Xj==b.Xj)&&(a.Of==b.Of))&&(a.Up==b.Up))&&(a.Xi==b.Xi))&&(a.Lo==b.Lo))&&(a.Hi==b.Hi)) with
  | false=>rfl
  | true=>simp only[Sim.opt,Bool.true_and,beq_self_eq_true,if_true,Za];cases decide (a.Words=b.Words)<;>rfl
def QdC (f:Qe):Bool:=
  if f.Xi=0 then inW f.Lo (-1048576) 1048576
  else if f.Xi=1 then QX f.Of&&QeG f.Lo f.Hi 0 65536
  else if f.Xi=2 then QeG f.Lo f.Hi (-1048576) 1048576
  else if f.Xi=3 then Qi9 f.Words f.Xf
  else if f.Xi=4 then ((f.Of==[])||QX f.Of)&&QeG f.Lo f.Hi (-1048576) 1048576
  else if f.Xi=5 then QX f.Of&&QeG f.Lo f.Hi 0 32
  else if f.Xi=6 then QX f.Of
  else if f.Xi=7 then (QX f.Of&&QX f.Up)&&QeG f.Lo f.Hi 0 1048576
  else if f.Xi=8 then QX f.Of&&QX f.Up
  else false
def QaN (f:Qe):Bool:=(QX f.Xj&&QdB f (Qdl f))&&QdC f
def Qwz {f:Qe} (s:f.Words.length<=1000000) (t:f.Xf.length<=1000000):Qfy f=some (QaN f):=by
  unfold Qfy QaN;rw[Qgk,QFf];simp only[Za]
  cases QX f.Xj with
  | false=>rfl
  | true=>
    simp only[Sim.opt,Bool.not_true,beq_self_eq_true,if_true,Za];rw[Qto s t];simp only[Za]
    cases QdB f (Qdl f) with
    | false=>rfl
    | true=>
      simp only[Qgk,Qrq s t,Bool.true_and,Bool.not_true,Bool.or_self];rw[Zb (by decide)];unfold QdC;by_cases a:f.Xi=0
      · rw[Zc (by simp[a]),Zc a];rfl
      rw[Zb (by simpa using a),Zb a];by_cases b:f.Xi=1
      · rw[Zc (by simp[b]),Zc b];cases QX f.Of<;>rfl
      rw[Zb (by simpa using b),Zb b];by_cases d:f.Xi=2
      · rw[Zc (by simp[d]),Zc d];rfl
      rw[Zb (by simpa using d),Zb d];by_cases e:f.Xi=3
      · rw[Zc (by simp[e]),Zc e];rfl
      rw[Zb (by simpa using e),Zb e];by_cases g:f.Xi=4
      · rw[Zc (by simp[g]),Zc g];cases (f.Of==[])<;>cases QX f.Of<;>rfl
      rw[Zb (by simpa using g),Zb g];by_cases h:f.Xi=5
      · rw[Zc (by simp[h]),Zc h];cases QX f.Of<;>rfl
      rw[Zb (by simpa using h),Zb h];by_cases l:f.Xi=6
      · rw[Zc (by simp[l]),Zc l];rfl
      rw[Zb (by simpa using l),Zb l];by_cases m:f.Xi=7
      · rw[Zc (by simp[m]),Zc m];cases QX f.Of<;>cases QX f.Up<;>rfl
      rw[Zb (by simpa using m),Zb m];by_cases o:f.Xi=8
      · rw[Zc (by simp[o]),Zc o];cases QX f.Of<;>rfl
      rw[Zb (by simpa using o),Zb o]
def QeH (k:QA):Bool:=((QX k.Xj&&QeG k.Lo k.Hi 0 65536)&&decide ((k.Xb.length:Int)<=10))&&k.Xb.all QaN
def QnM (l:List Qe):Prop:=l.length<=1000000/\∀f∈l,f.Words.length<=1000000/\f.Xf.length<=1000000
def QyZ {k:QA} (h:QnM k.Xb):Qf1 k=some (QeH k):=by
  unfold Qf1 QeH;rw[Qgk,QBq (p:=QaN) h.1 (λf hf=>Qwz (h.2 f hf).1 (h.2 f hf).2)];simp only[Za]
  cases QX k.Xj with
  | false=>rfl
  | true=>
    show (opt true (some (QeG k.Lo k.Hi 0 65536)) default).bind _=_;simp only[Sim.opt,Bool.true_and,if_true,Za]
    cases QeG k.Lo k.Hi 0 65536 with
    | false=>rfl
    | true=>
      cases a:decide ((k.Xb.length:Int)<=10) with
      | false=>rfl
      | true=>rfl
def QeI (n:Int) (m:Qar):Bool:=inW m.a0 0 (n - 1)&&inW m.a1 0 (n - 1)
def QfC (x:Qm):Bool:=(((QX x.Xj&&inW (x.Xe.length:Int) 1 12)&&x.Xe.all QX)&&decide ((x.Xg.length:Int)<=32))&&x.Xg.all (QeI (x.Xe.length:Int))
def Qy0 {x:Qm} (a:x.Xe.length<=1000000) (b:x.Xg.length<=1000000):Qf2 x=some (QfC x):=by
  have hm:∀m∈x.Xg,QeY m (x.Xe.length:Int)=some (QeI (x.Xe.length:Int) m):=λm _=>by unfold QeY QeI;rw[w64 (by omega) (by omega)];show (some (inW m.a0 0 ((x.Xe.length:Int) - 1))).bind _=_;simp only[Za];cases inW m.a0 0 ((x.Xe.length:Int) - 1)<;>rfl
  unfold Qf2 QfC;rw[Qgk,QnL (p:=QX) a (λs _=>Qgk s),QyX (p:=QeI (x.Xe.length:Int)) b hm];simp only[Za]
  cases QX x.Xj with
  | false=>rfl
  | true=>
    show (opt true (some (inW (x.Xe.length:Int) 1 12)) default).bind _=_;simp only[Sim.opt,Bool.true_and,if_true,Za]
    cases inW (x.Xe.length:Int) 1 12 with
    | false=>rfl
    | true=>
      simp only[Bool.true_and,beq_self_eq_true,if_true,Za]
      cases x.Xe.all QX with
      | false=>rfl
      | true=>cases decide ((x.Xg.length:Int)<=32)<;>rfl
def QdY (r:QL):Bool:=((((QX r.Xj&&QX r.Xi)&&((r.A==[])||QX r.A))&&((r.B==[])||QX r.B))&&(r.A++r.B !=[]))&&inW r.N (-1048576) 1048576
def Qb7 {s:Str} (h:QX s=true):s.length<=12:=by unfold QX at h;simp only[Zi] at h;have:=(Qdi h.1).2;omega
def Qy1 (r:QL):Qf3 r=some (QdY r):=by
  have len:∀s:Str,((s==[])||QX s)=true->s.length<=12:=λs h=>by
    rcases ZJ _ _ |>.mp h with h | h
    · have:s=[]:=by simpa using h
      subst this;simp
    · exact Qb7 h
  unfold Qf3 QdY;simp only[Qgk];simp only[Za]
  cases QX r.Xj with
  | false=>rfl
  | true=>
    simp only[Sim.opt,Bool.true_and,beq_self_eq_true,if_true,Za]
    cases QX r.Xi with
    | false=>rfl
    | true=>
      simp only[Bool.true_and,beq_self_eq_true,Bool.true_and];have d:=len r.A;have g:=len r.B
      cases ha:(r.A==[])<;>cases a:QX r.A<;>cases hb:(r.B==[])<;>cases b:QX r.B<;>first
        | rfl
        | (rw[ha,a] at d;rw[hb,b] at g
           have e:cat (r.A.length+r.B.length)=some ():=Zc (by have:=d rfl;have:=g rfl;omega);simp only[e,Bool.false_or,Bool.or_false,Bool.true_or,Bool.or_true,Bool.and_true,Bool.true_and,Bool.and_self,beq_self_eq_true,if_true,Za];cases (r.A++r.B !=[])<;>rfl)
def Qja:∀(k u:Nat),u<10 ^ (k+1)->(Lib.decDigits u).length<=k+1
 | 0,u,h=>by rw[Lib.decDigits,dif_pos (by simpa using h)];simp
 | k+1,u,h=>by
  rw[Lib.decDigits];split
  ·simp
  ·have:=Qja k (u / 10) (by rw[Nat.pow_succ] at h;omega);rw[Zf,length_singleton];omega
def QcQ {n:Int} (h:I64 n):(Lib.itoa n).length<=20:=by
 unfold I64 at h;unfold Lib.itoa;split
 ·have:=Qja 18 n.natAbs (by omega);rw[Zk];omega
 ·have:=Qja 18 n.toNat (by omega);omega
def QFg {n:Int} (h:I64 n):QpT n=some (Lib.itoa n):=Zc h
def Qej:AnyV->Str
 | .int n=>Lib.itoa n
 | .str s=>s
def VOk:AnyV->Prop
 | .int n=>I64 n
 | .str s=>s.length<=100
def QmJ {v:AnyV} (h:VOk v):(Qej v).length<=100:=by
 cases v with
 | int n=>have:=QcQ h;show (Lib.itoa n).length<=100;omega
 | str s=>exact h
def toks (l:List AnyV):Str:=l.flatMap λv=>32::Qej v
def Qo6 {l:List AnyV} (h:∀v∈l,VOk v):(toks l).length<=l.length * 101:=by
 induction l with
 | nil=>simp[toks]
 | cons v l a=>have b:=a λu hu=>h u (Zz _ hu);have d:=QmJ (h v Zq);have e:toks (v::l)=(32::Qej v)++toks l:=rfl;rw[e,Zf,Zk,Zk];omega
def Qfe (w:Str) (l:List AnyV):Str:=w++toks l++[10]
def QgA {a b:Str} (h:a.length+b.length<=68719476736):QbI a b=some (a++b):=Zc h
def QkE {w:Str} {l:List AnyV} (C:1<=w.length) (D:w.length<=10) (hl:l.length<=1000) (g:∀v∈l,VOk v):Qa5 w l=some (Qfe w l):=by
 have key:Ok (Qa5 w l) (λr=>r=Qfe w l):=by
  unfold Qa5;rw[QgA (by simp;omega)];simp only[Za,Yj];refine Ok.bind (P:=λr=>r=w++toks l) (Ok.loop (λm s=>0<=s.1/\s.1+m=l.length/\s.2=w++toks (l.take s.1.toNat)) l.length ⟨Zx _,by dsimp only;omega,by simp[toks]⟩ λm s y=>?_) λr o=>?_
  ·obtain⟨i,t⟩:=s;obtain⟨e1,e2,u⟩:=y;dsimp only at e1 e2 u;obtain⟨k,rfl⟩:=ZG e1;rw[ZF] at u;subst u;refine Ok.ite (λx=>?_) (λx=>?_)
   ·have b:k<l.length:=by simpa using x
    have a:=g _ (Zo b);have hlen:=Qo6 (l:=l.take k) λv hm=>g v (mem_of_mem_take hm);have d:=QmJ a;have z:(l.take k).length<=1000:=by rw[ZU];omega
    dsimp only;rw[QY b];simp only[Za];have eb:QjM (w++toks (l.take k)) 32=some (w++toks (l.take k)++[32]):=Zc ⟨by decide,by decide,by rw[Zf];omega⟩;rw[eb];simp only[Za];refine Ok.bind (P:=λp=>p=w++toks (l.take k)++[32]++Qej l[k]) ?_ λp hp=>Ok.mk ⟨m - 1,by omega,?_⟩
    ·cases e:l[k] with
     | int n=>rw[e] at a d;show Ok (if true=true then _ else _) _;rw[Zc rfl];show Ok ((QpT n).bind _) _;rw[QFg a];simp only[Za];have hi:=QcQ a;rw[QgA (by simp only[Zf,length_singleton];omega)];exact Ok.mk rfl
     | str s=>rw[e] at a d;show Ok (if false=true then _ else ((if true=true then (QbI (w++toks (l.take k)++[32]) s).bind _ else _)).bind _) _;rw[Zb (by decide),Zc rfl];have y:s.length<=100:=a;rw[QgA (by simp only[Zf,length_singleton];omega)];exact Ok.mk rfl
    ·subst hp;dsimp only;rw[QD b (by omega)];refine⟨by omega,by omega,?_⟩;rw[ZF,Zw b];simp only[toks,ZK,flatMap_cons,flatMap_nil,Yc,ZE,cons_append,Yj]
   ·have b:¬k<l.length:=by simpa using x
    refine Ok.mk ?_;dsimp only;rw[Zu (by omega)]
  ·subst o;have hlen:=Qo6 g;have eb:QiB (w++toks l)=some (w++toks l):=Zb λh=>by
    have:=Ya length h;rw[Zf,Zm] at this;omega
   rw[eb];simp only[Za];exact Ok.cat (by rw[Zf,length_singleton];omega) (Ok.mk rfl)
 obtain⟨r,o,rfl⟩:=key;exact o
def QhJ {w:Str} {l:List AnyV} (b:w.length<=10) (a:∀v∈l,VOk v):(Qfe w l).length<=11+l.length * 101:=by have:=Qo6 a;unfold Qfe;rw[Zf,Zf,length_singleton];omega
def Qbt (s:Str):Str:=if s=[] then [45] else s
def Qo7 (s:Str):Qem s=some (Qbt s):=by
 unfold Qem Qh2;have key:∀body:Int->Option (Int⊕(Unit⊕Str)),(body 0=if (s !=[])=true then some (.inr (.inr s)) else some (.inl 1))->body 1=some (.inr (.inr [45]))->
   Qr body 0=some (.inr (Qbt s)):=λbody h0 b=>by
  rw[Qdp,h0];unfold Qbt;by_cases a:s=[]
  ·rw[Zb (by simp[a]),Zc a];show Qr body 1=_;rw[Qdp,b]
  ·rw[Zc (by simpa using a),Zb a]
 rw[key _ rfl rfl];rfl
def Qba (f:Qe):List AnyV:=
 if f.Xi=0 then [.str f.Xj,.int f.Lo]
 else if f.Xi=2 then [.str f.Xj,.int f.Lo,.int f.Hi]
 else if f.Xi=3 then [.str f.Xj,.int (f.Words.length:Int)]++(f.Words.zip f.Xf).flatMap λp=>[.str p.1,.int p.2]
 else if f.Xi=6 then [.str f.Xj,.str f.Of]
 else if f.Xi=7 then [.str f.Xj,.str f.Up,.str f.Of,.int f.Lo,.int f.Hi]
 else if f.Xi=8 then [.str f.Xj,.str f.Up,.str f.Of]
 else [.str f.Xj,.str (Qbt f.Of),.int f.Lo,.int f.Hi]
def QmK (f:Qe):Str:=QlZ[f.Xi.toNat]?.getD []
def QfD (f:Qe):Str:=Qfe (QmK f) (Qba f)
def Qf9 {s:Str} (h:QX s=true):VOk (.str s):=by have:=Qb7 h;show s.length<=100;omega
def Qjw {s:Str} (h:((s==[])||QX s)=true):VOk (.str (Qbt s)):=by
 unfold Qbt;by_cases a:s=[]
 ·rw[Zc a];show ([45]:Str).length<=100;decide
 ·rw[Zb a];have:QX s=true:=by simpa[a] using h
  exact Qf9 this
def Qcw {n:Int} (h:-100000000<=n/\n<=100000000):VOk (.int n):=by show I64 n;unfold I64;omega
def Qy2 {l:List Str} {g:List Int} (h:l.length=g.length) (k:Nat) (a:k<l.length):(((l.zip g).take k).flatMap λp=>[AnyV.str p.1,AnyV.int p.2])++[AnyV.str l[k],AnyV.int (g[k]'(by omega))]=((l.zip g).take (k+1)).flatMap λp=>[AnyV.str p.1,AnyV.int p.2]:=by rw[Zw (by rw[length_zip];omega),ZK,getElem_zip];rfl
def Qrr (l:List (Str×Int)):(l.flatMap λp=>[AnyV.str p.1,AnyV.int p.2]).length=2 * l.length:=by
 induction l with
 | nil=>rfl
 | cons a l b=>rw[flatMap_cons,Zf,b];simp;omega
structure Qom (f:Qe):Prop where
 kind:0<=f.Xi/\f.Xi<=8
 items:∀v∈Qba f,VOk v
 count:(Qba f).length<=30
 pick:f.Xi=3->f.Words.length=f.Xf.length/\f.Words.length<=12
def Qfm {lo hi a b:Int} (h:QeG lo hi a b=true):a<=lo/\lo<=hi/\hi<=b:=by simp only[QeG,Zi,Zs] at h;omega
def QhK {f:Qe} (h:QaN f=true):Qom f:=by
 unfold QaN at h;simp only[Zi] at h;obtain⟨⟨D,_⟩,hp⟩:=h;have d:=Qf9 D;unfold QdC at hp;by_cases l:f.Xi=0
 ·rw[Zc l] at hp;have e:Qba f=[.str f.Xj,.int f.Lo]:=by unfold Qba;rw[Zc l]
  refine⟨by omega,?_,by rw[e];simp,λh=>by omega⟩;have:=Qdi hp;rw[e];simp only[Zp,ZN,ZX,ZZ,forall_eq];exact⟨d,Qcw (by omega)⟩
 rw[Zb l] at hp;by_cases m:f.Xi=1
 ·rw[Zc m] at hp;simp only[Zi] at hp;have e:Qba f=[.str f.Xj,.str (Qbt f.Of),.int f.Lo,.int f.Hi]:=by unfold Qba;simp[m]
  have:=Qfm hp.2;refine⟨by omega,?_,by rw[e];simp,λh=>by omega⟩;rw[e];simp only[Zp,ZN,ZX,ZZ,forall_eq];exact⟨d,Qjw (by rw[hp.1];simp),Qcw (by omega),Qcw (by omega)⟩
 rw[Zb m] at hp;by_cases o:f.Xi=2
 ·rw[Zc o] at hp;have e:Qba f=[.str f.Xj,.int f.Lo,.int f.Hi]:=by unfold Qba;simp[o]
  have:=Qfm hp;refine⟨by omega,?_,by rw[e];simp,λh=>by omega⟩;rw[e];simp only[Zp,ZN,ZX,ZZ,forall_eq];exact⟨d,Qcw (by omega),Qcw (by omega)⟩
 rw[Zb o] at hp;by_cases s:f.Xi=3
 ·rw[Zc s] at hp;simp only[Qi9,Zi,ZD,Yf] at hp;obtain⟨E,⟨⟨F,hl⟩,_⟩,t⟩:=hp;have H:=(Qdi F).2;have u:f.Words.length=f.Xf.length:=by omega
  have e:Qba f=[.str f.Xj,.int (f.Words.length:Int)]++(f.Words.zip f.Xf).flatMap λp=>[.str p.1,.int p.2]:=by unfold Qba;simp[s]
  refine⟨by omega,?_,?_,λ_=>⟨u,by omega⟩⟩
  ·rw[e];intro v g;rcases ZB.1 g with g | g
   ·simp only[Zp,ZN,ZX] at g;rcases g with rfl | rfl
    ·exact d
    ·exact Qcw (by omega)
   ·obtain⟨p,hp,g⟩:=Yb.1 g;obtain⟨a,b⟩:=p;have hz:=of_mem_zip hp;simp only[Zp,ZN,ZX] at g;rcases g with rfl | rfl
    ·exact Qf9 (t _ hz.1)
    ·have:=Qdi (E _ hz.2);exact Qcw (by omega)
  ·rw[e,Zf,Qrr,length_zip];simp only[Zk,Zm];omega
 rw[Zb s] at hp;by_cases w:f.Xi=4
 ·rw[Zc w] at hp;simp only[Zi] at hp;have e:Qba f=[.str f.Xj,.str (Qbt f.Of),.int f.Lo,.int f.Hi]:=by unfold Qba;simp[w]
  have:=Qfm hp.2;refine⟨by omega,?_,by rw[e];simp,λh=>by omega⟩;rw[e];simp only[Zp,ZN,ZX,ZZ,forall_eq];exact⟨d,Qjw hp.1,Qcw (by omega),Qcw (by omega)⟩
 rw[Zb w] at hp;by_cases x:f.Xi=5
 ·rw[Zc x] at hp;simp only[Zi] at hp;have e:Qba f=[.str f.Xj,.str (Qbt f.Of),.int f.Lo,.int f.Hi]:=by unfold Qba;simp[x]
  have:=Qfm hp.2;refine⟨by omega,?_,by rw[e];simp,λh=>by omega⟩;rw[e];simp only[Zp,ZN,ZX,ZZ,forall_eq];exact⟨d,Qjw (by rw[hp.1];simp),Qcw (by omega),Qcw (by omega)⟩
 rw[Zb x] at hp;by_cases y:f.Xi=6
 ·rw[Zc y] at hp;have e:Qba f=[.str f.Xj,.str f.Of]:=by unfold Qba;simp[y]
  refine⟨by omega,?_,by rw[e];simp,λh=>by omega⟩;rw[e];simp only[Zp,ZN,ZX,ZZ,forall_eq];exact⟨d,Qf9 hp⟩
 rw[Zb y] at hp;by_cases z:f.Xi=7
 ·rw[Zc z] at hp;simp only[Zi] at hp;have e:Qba f=[.str f.Xj,.str f.Up,.str f.Of,.int f.Lo,.int f.Hi]:=by unfold Qba;simp[z]
  have:=Qfm hp.2;refine⟨by omega,?_,by rw[e];simp,λh=>by omega⟩;rw[e];simp only[Zp,ZN,ZX,ZZ,forall_eq];exact⟨d,Qf9 hp.1.2,Qf9 hp.1.1,Qcw (by omega),Qcw (by omega)⟩
 rw[Zb z] at hp;by_cases C:f.Xi=8
 ·rw[Zc C] at hp;simp only[Zi] at hp;have e:Qba f=[.str f.Xj,.str f.Up,.str f.Of]:=by unfold Qba;simp[C]
  refine⟨by omega,?_,by rw[e];simp,λh=>by omega⟩;rw[e];simp only[Zp,ZN,ZX,ZZ,forall_eq];exact⟨d,Qf9 hp.2,Qf9 hp.1⟩
 rw[Zb C] at hp;cases hp
def Qrs {f:Qe} (h:0<=f.Xi/\f.Xi<=8):idx QlZ f.Xi=some (QmK f)/\1<=(QmK f).length/\(QmK f).length<=10:=by
 obtain⟨k,a⟩:=ZG h.1;have b:k<=8:=by omega
 unfold QmK;rw[a,Qhd,ZF];have:k=0\/k=1\/k=2\/k=3\/k=4\/k=5\/k=6\/k=7\/k=8:=by omega
 rcases this with rfl | rfl | rfl | rfl | rfl | rfl | rfl | rfl | rfl<;>exact⟨rfl,by decide,by decide⟩
def QBs {f:Qe} (h:Qom f):QgU f=some (QfD f):=by
 obtain⟨e0,t,u⟩:=Qrs h.kind;have a:Qa5 (QmK f) (Qba f)=some (QfD f):=QkE t u (by have:=h.count;omega) h.items;unfold QgU;rw[e0];simp only[Za];by_cases d:f.Xi=0
 ·rw[Zc (by simp[d])];have e:Qba f=[.str f.Xj,.int f.Lo]:=by unfold Qba;simp[d]
  rw[<-e,a];rfl
 rw[Zb (by simpa using d)];by_cases g:f.Xi=2
 ·rw[Zc (by simp[g])];have e:Qba f=[.str f.Xj,.int f.Lo,.int f.Hi]:=by unfold Qba;simp[g]
  rw[<-e,a];rfl
 rw[Zb (by simpa using g)];by_cases b:f.Xi=3
 ·rw[Zc (by simp[b])];obtain⟨w,x⟩:=h.pick b;have e:Qba f=[.str f.Xj,.int (f.Words.length:Int)]++(f.Words.zip f.Xf).flatMap λp=>[.str p.1,.int p.2]:=by unfold Qba;simp[b]
  refine QdA f.Words.length (λn=>((n:Int),[.str f.Xj,.int (f.Words.length:Int)]++((f.Words.zip f.Xf).take n).flatMap λp=>[.str p.1,.int p.2])) _ (by simp) (λn l=>?_) (Zb (by simp)) ?_
  ·have hlen:(((f.Words.zip f.Xf).take n).flatMap λp=>[AnyV.str p.1,AnyV.int p.2]).length<=100:=by
    rw[Qrr,ZU,length_zip];omega
   rw[Zc (by simpa using l)];dsimp only;rw[QY l,QY (by omega)];simp only[Za];rw[QdX (by simp only[Zf,Zk,Zm];omega),QD l (by omega),<-Qy2 w n l,ZE];rfl
  ·dsimp only;rw[Zu (by rw[length_zip];omega),<-e,a];rfl
 rw[Zb (by simpa using b)];by_cases m:f.Xi=6
 ·rw[Zc (by simp[m])];have e:Qba f=[.str f.Xj,.str f.Of]:=by unfold Qba;simp[m]
  rw[<-e,a];rfl
 rw[Zb (by simpa using m)];by_cases o:f.Xi=7
 ·rw[Zc (by simp[o])];have e:Qba f=[.str f.Xj,.str f.Up,.str f.Of,.int f.Lo,.int f.Hi]:=by unfold Qba;simp[o]
  rw[<-e,a];rfl
 rw[Zb (by simpa using o)];by_cases s:f.Xi=8
 ·rw[Zc (by simp[s])];have e:Qba f=[.str f.Xj,.str f.Up,.str f.Of]:=by unfold Qba;simp[s]
  rw[<-e,a];rfl
 rw[Zb (by simpa using s),Qo7];simp only[Za];have e:Qba f=[.str f.Xj,.str (Qbt f.Of),.int f.Lo,.int f.Hi]:=by unfold Qba;simp[d,g,b,m,o,s]
 rw[<-e,a];rfl
def Qiu {f:Qe} (h:Qom f):(QfD f).length<=4000:=by have:=QhJ (Qrs h.kind).2.2 h.items;have:=h.count;unfold QfD;omega
def Qeo (l:List α) (g:α->Str) (B:Nat) (e:∀a∈l,(g a).length<=B) (a0:Str) {body:Int×Str->Option ((Int×Str)⊕Str)} (m:∀k (h:k<l.length) b,b.length<=a0.length+k * B->body ((k:Int),b)=some (.inl (((k+1:Nat):Int),b++g l[k]))) (o:∀b,body ((l.length:Int),b)=some (.inr b)):
  Qr body ((0:Int),a0)=some (a0++l.flatMap g):=by
 have hlen:∀n,n<=l.length->((l.take n).flatMap g).length<=n * B:=λn=>by
  induction n with
  | zero=>intro _;simp
  | succ n s=>intro t;rw[Zw (by omega),ZK,Zf,Nat.succ_mul];have u:=s (by omega);have w:=e _ (Zo (show n<l.length by omega));simp only[flatMap_cons,flatMap_nil,Yc];omega
 have h:=Qio (body:=body) l.length (λn=>((n:Int),a0++(l.take n).flatMap g)) (a0++l.flatMap g) (λk d=>?_) ?_
 ·simpa using h
 ·rw[m k d _ (by rw[Zf];have:=hlen k (by omega);omega),Zw d,ZK];simp
 ·rw[o];simp
def Qga (k:QA):Str:=Qfe [107,105,110,100] [.str k.Xj,.int k.Lo,.int k.Hi]++k.Xb.flatMap QfD
def QiO (m:Qar):Str:=Qfe [109,111,118,101] [.int m.a0,.int m.a1]
def Qhe (l:Qm):Str:=Qfe [108,105,102,101] ([.str l.Xj,.int (l.Xe.length:Int)]++l.Xe.map .str)++l.Xg.flatMap QiO
def Qgl (r:QL):List AnyV:=[.str r.Xj,.str r.Xi,.str (Qbt r.A),.str (Qbt r.B),.int r.N]
def Qjx (r:QL):Str:=Qfe [114,117,108,101] (Qgl r)
def srcS (x:Qc):Str:=Qfe [115,99,104,101,109,97] [.int x.Version]++x.Xa.flatMap Qga++x.Xd.flatMap Qhe++x.Xc.flatMap Qjx
def Qip {k:QA} (h:QeH k=true):(∀v∈[AnyV.str k.Xj,.int k.Lo,.int k.Hi],VOk v)/\k.Xb.length<=10/\∀f∈k.Xb,QaN f=true:=by simp only[QeH,Zi,ZD,Zs] at h;obtain⟨⟨⟨a,b⟩,e⟩,d⟩:=h;have:=Qfm b;refine⟨?_,by omega,d⟩;simp only[Zp,ZN,ZX,ZZ,forall_eq];exact⟨Qf9 a,Qcw (by omega),Qcw (by omega)⟩
def QhL {l:List α} {g:α->Str} {B:Nat} (h:∀a∈l,(g a).length<=B):(l.flatMap g).length<=l.length * B:=by
 induction l with
 | nil=>simp
 | cons a l d=>have e:=d λb hb=>h b (Zz _ hb);have m:=h a Zq;rw[flatMap_cons,Zf,Zk,Nat.succ_mul];omega
def QlH {k:QA} (h:QeH k=true):(Qga k).length<=50000:=by obtain⟨a,d,b⟩:=Qip h;have e1:=QhJ (w:=[107,105,110,100]) (by decide) a;have e2:=QhL (l:=k.Xb) (g:=QfD) (B:=4000) λf hf=>Qiu (QhK (b f hf));unfold Qga;rw[Zf];simp only[Zk,Zm] at e1;omega
def Qy3 {n:Int} (a:n<=1000) {m:Qar} (h:QeI n m=true):∀v∈[AnyV.int m.a0,.int m.a1],VOk v:=by simp only[QeI,Zi] at h;have b:=Qdi h.1;have d:=Qdi h.2;simp only[Zp,ZN,ZX,ZZ,forall_eq];exact⟨Qcw (by omega),Qcw (by omega)⟩
def Qy4 {l:Qm} (h:QfC l=true):(∀v∈[AnyV.str l.Xj,.int (l.Xe.length:Int)]++l.Xe.map .str,VOk v)/\l.Xe.length<=12/\l.Xg.length<=32/\∀m∈l.Xg,∀v∈[AnyV.int m.a0,.int m.a1],VOk v:=by
 simp only[QfC,Zi,ZD,Zs] at h;obtain⟨⟨⟨⟨b,d⟩,e⟩,t⟩,g⟩:=h;have hl:=(Qdi d).2;refine⟨λv a=>?_,by omega,by omega,λm hm=>Qy3 (by omega) (g m hm)⟩;rcases ZB.1 a with a | a
 ·simp only[Zp,ZN,ZX] at a;rcases a with rfl | rfl
  ·exact Qf9 b
  ·exact Qcw (by omega)
 ·obtain⟨s,o,rfl⟩:=ZP.1 a;exact Qf9 (e s o)
def QjO {m:Qar} (h:∀v∈[AnyV.int m.a0,.int m.a1],VOk v):(QiO m).length<=300:=by have:=QhJ (w:=[109,111,118,101]) (by decide) h;simp only[Zk,Zm] at this;unfold QiO;omega
def QjP {l:Qm} (h:QfC l=true):(Qhe l).length<=20000:=by obtain⟨a,d,e,b⟩:=Qy4 h;have e1:=QhJ (w:=[108,105,102,101]) (by decide) a;have e2:=QhL (l:=l.Xg) (g:=QiO) (B:=300) λm hm=>QjO (b m hm);unfold Qhe;rw[Zf];simp only[Zf,Zk,Zm,Yd] at e1;omega
def Qy5 (h:QdY r=true):∀v∈Qgl r,VOk v:=by simp only[QdY,Zi] at h;obtain⟨⟨⟨⟨⟨a,b⟩,d⟩,e⟩,_⟩,g⟩:=h;have:=Qdi g;unfold Qgl;simp only[Zp,ZN,ZX,ZZ,forall_eq];exact⟨Qf9 a,Qf9 b,Qjw d,Qjw e,Qcw (by omega)⟩
def QlI (h:QdY r=true):(Qjx r).length<=1000:=by have:=QhJ (w:=[114,117,108,101]) (by decide) (Qy5 h);have e:(Qgl r).length=5:=rfl;unfold Qjx;omega
def Qgb (x:Qc):Bool:=((((inW x.Version 0 1048576&&decide ((x.Xa.length:Int)<=6))&&decide ((x.Xd.length:Int)<=6))&&decide ((x.Xc.length:Int)<=16))&&x.Xa.all QeH)&&x.Xd.all QfC&&x.Xc.all QdY
structure QkF (x:Qc):Prop where
 version:0<=x.Version/\x.Version<=1048576
 kinds:x.Xa.length<=6
 lives:x.Xd.length<=6
 rules:x.Xc.length<=16
 kind:∀k∈x.Xa,QeH k=true
 life:∀l∈x.Xd,QfC l=true
 rule:∀r∈x.Xc,QdY r=true
def QjZ {x:Qc} (h:Qgb x=true):QkF x:=by simp only[Qgb,Zi,ZD,Zs] at h;obtain⟨⟨⟨⟨⟨⟨a,g⟩,l⟩,m⟩,b⟩,d⟩,e⟩:=h;exact⟨Qdi a,by omega,by omega,by omega,b,d,e⟩
def Qy6 {x:Qc} (h:QkF x):Qf4 x=some (srcS x):=by
 have P:=h.version;have v0:∀v∈[AnyV.int x.Version],VOk v:=by simp only[Zp,ZN,ZX,forall_eq];exact Qcw (by omega)
 have I:=QhJ (w:=[115,99,104,101,109,97]) (by decide) v0;simp only[Zk,Zm] at I;have R:=QhL (l:=x.Xa) (g:=Qga) (B:=50000) λk a=>QlH (h.kind k a);have S:=QhL (l:=x.Xd) (g:=Qhe) (B:=20000) λk a=>QjP (h.life k a);have T:=h.kinds;have U:=h.lives;have V:=h.rules;unfold Qf4;rw[QkE (by decide) (by decide) (by simp) v0];simp only[Za];rw[QgA (by rw[Zm];omega)];simp only[Za,Yj];rw[Qeo x.Xa Qga 50000 (λk a=>QlH (h.kind k a)) (Qfe [115,99,104,101,109,97] [.int x.Version]) (λk a b o=>?_) (λb=>Zb (by simp))]
 ·simp only[Za];rw[Qeo x.Xd Qhe 20000 (λk a=>QjP (h.life k a)) (Qfe [115,99,104,101,109,97] [.int x.Version]++x.Xa.flatMap Qga) (λk a b o=>?_) (λb=>Zb (by simp))]
  ·simp only[Za];rw[Qeo x.Xc Qjx 1000 (λk a=>QlI (h.rule k a)) (Qfe [115,99,104,101,109,97] [.int x.Version]++x.Xa.flatMap Qga++x.Xd.flatMap Qhe) (λk a b o=>?_) (λb=>Zb (by simp))]
   ·simp only[Za];have e:QiB (srcS x)=some (srcS x):=Zb λh=>by
     have:=Ya length h;simp only[srcS,Qfe,Zf,Zk,Zm] at this;omega
    show (QiB (srcS x)).bind _=_;rw[e];rfl
   ·have F:=h.rule _ (Zo a);have K:=QlI F;rw[Zc (by simpa using a)];dsimp only;rw[QY a];simp only[Za];rw[Qo7,Qo7];simp only[Za];show (Qa5 [114,117,108,101] (Qgl x.Xc[k])).bind _=_;rw[QkE (by decide) (by decide) (by simp[Qgl]) (Qy5 F)];simp only[Za];rw[Zf,Zf] at o;rw[QgA (by show b.length+(Qjx x.Xc[k]).length<=_;omega),QD a (by omega)];rfl
  ·have hl:=h.life _ (Zo a);obtain⟨u,L,C,H⟩:=Qy4 hl;have M:=QjP hl;rw[Zc (by simpa using a)];dsimp only;rw[QY a];simp only[Za];have y:∀n,n<=x.Xd[k].Xe.length->([AnyV.str x.Xd[k].Xj,.int (x.Xd[k].Xe.length:Int)]++(x.Xd[k].Xe.take n).map AnyV.str).length<=100:=λn z=>by
    simp only[Zf,Zk,Zm,Yd,ZU];omega
   refine QdA x.Xd[k].Xe.length (λn=>((n:Int),[AnyV.str x.Xd[k].Xj,.int (x.Xd[k].Xe.length:Int)]++(x.Xd[k].Xe.take n).map AnyV.str)) _ (by simp) (λn z=>?_) (Zb (by simp)) ?_
   ·rw[Zc (by simpa using z)];dsimp only;rw[QY z];simp only[Za];rw[QdX (by have:=y n (by omega);rw[length_singleton];omega),QD z (by omega),Zw z,Yz,<-ZE];rfl
   ·dsimp only;rw[Zu (Zr _),QkE (by decide) (by decide) (by have:=y _ (Zr _);rw[Zu (Zr _)] at this;omega) u];simp only[Za];have D:=QhJ (w:=[108,105,102,101]) (by decide) u;simp only[Zf,Zk,Zm,Yd] at D;rw[Zf] at o;rw[QgA (by omega)];simp only[Za];rw[Qeo x.Xd[k].Xg QiO 300 (λm hm=>QjO (H m hm)) _ (λq s t d=>?_) (λb=>Zb (by simp))]
    ·simp only[Za];rw[QD a (by omega)];simp[Qhe]
    ·have hm:=H _ (Zo s);have N:=QjO hm;rw[Zc (by simpa using s)];dsimp only;rw[QY s];simp only[Za];rw[QkE (by decide) (by decide) (by simp) hm];simp only[Za];rw[Zf] at d;rw[QgA (by show t.length+(QiO x.Xd[k].Xg[q]).length<=_;omega),QD s (by omega)];rfl
 ·have E:=h.kind _ (Zo a);obtain⟨u,L,C⟩:=Qip E;have D:=QhJ (w:=[107,105,110,100]) (by decide) u;simp only[Zk,Zm] at D;rw[Zc (by simpa using a)];dsimp only;rw[QY a];simp only[Za];rw[QkE (by decide) (by decide) (by simp) u];simp only[Za];rw[QgA (by omega)];simp only[Za];rw[Qeo x.Xa[k].Xb QfD 4000 (λf hf=>Qiu (QhK (C f hf))) _ (λq s t d=>?_) (λb=>Zb (by simp))]
  ·simp only[Za];rw[QD a (by omega)];simp[Qga]
  ·have hf:=QhK (C _ (Zo s));have O:=Qiu hf;rw[Zc (by simpa using s)];dsimp only;rw[QY s];simp only[Za];rw[QBs hf];simp only[Za];rw[Zf] at d;rw[QgA (by omega),QD s (by omega)];rfl
def Qgc (x:Qc):Int:=if Qgb x=true then (if (srcS x).length>8192 then 4 else 0) else 1
def Fine (x:Qc):Prop:=(x.Xa.length<=1000000/\∀k∈x.Xa,QnM k.Xb)/\(x.Xd.length<=1000000/\∀l∈x.Xd,l.Xe.length<=1000000/\l.Xg.length<=1000000)/\x.Xc.length<=1000000
def Sz.fine {x:Qc} (h:Sz x):Fine x:=by
 obtain⟨⟨a1,a2⟩,⟨d,b⟩,c,_⟩:=h;refine⟨⟨by omega,λk a=>⟨by have:=(a2 k a).1;omega,λf hf=>?_⟩⟩,⟨by omega,λl hl=>?_⟩,by omega⟩
 ·have:=(a2 k a).2.1 f hf;exact⟨by have:=this.1;omega,by have:=this.2.1;omega⟩
 ·have:=b l hl;exact⟨by omega,by omega⟩
def QBt {x:Qc} (h:Fine x):QgV x=some (Qgc x):=by
 obtain⟨⟨a1,a2⟩,⟨y,w⟩,c⟩:=h;unfold QgV;rw[QFc (p:=QeH) a1 (λk z=>QyZ (a2 k z)),QFd (p:=QfC) y (λl hl=>Qy0 (w l hl).1 (w l hl).2),QFe (p:=QdY) c (λr _=>Qy1 r)];show (some (inW x.Version 0 1048576)).bind _=_;simp only[Za];have b:∀(n:Nat) (m:Int),decide ((n:Int)>m)=!decide ((n:Int)<=m):=λn m=>by
  by_cases h:(n:Int)<=m
  ·rw[decide_eq_true h,decide_eq_false (by omega)];rfl
  ·rw[decide_eq_false h,decide_eq_true (by omega)];rfl
 rw[b,b,b];unfold Qgc
 cases a:Qgb x with
 | true=>
  have C:=Qy6 (QjZ a);simp only[Qgb,Zi] at a;obtain⟨⟨⟨⟨⟨⟨d,e⟩,g⟩,o⟩,s⟩,t⟩,u⟩:=a;simp only[d,e,g,o,s,t,u,Sim.opt,Bool.not_true,Bool.or_self,beq_self_eq_true,if_true,Za];rw[Zb (by decide),C];simp only[Za];by_cases hl:(srcS x).length>8192
  ·rw[Zc (by simp;omega),Zc hl]
  ·rw[Zb (by simp;omega),Zb hl]
 | false=>
  rw[Zb (by decide)];unfold Qgb at a
  cases d:inW x.Version 0 1048576<;>cases e:decide ((x.Xa.length:Int)<=6)<;>cases g:decide ((x.Xd.length:Int)<=6)<;>cases o:decide ((x.Xc.length:Int)<=16)<;>
   cases s:x.Xa.all QeH<;>cases t:x.Xd.all QfC<;>cases u:x.Xc.all QdY<;>first | rfl | (rw[d,e,g,o,s,t,u] at a;cases a)
def Qbz:List Qaq->Int
 | []=>0
 | f::r=>if f.is=true then f.code else Qbz r
def QiD {l:List Qaq} (hl:l.length<=1000):QaS l=some (Qbz l):=by
 have key:Ok (QaS l) (λr=>r=Qbz l):=by
  unfold QaS;refine Ok.bind (P:=λe:Unit⊕Int=>(match e with | .inl _=>0 | .inr r=>r)=Qbz l) (Ok.loop (λm s=>0<=s/\s+m=l.length/\Qbz (l.drop s.toNat)=Qbz l) l.length ⟨Zx _,by omega,by simp⟩ λm s g=>?_) λe h=>by cases e<;>exact Ok.mk h
  obtain⟨o,u,b⟩:=g;obtain⟨k,rfl⟩:=ZG o;rw[ZF] at b;refine Ok.ite (λd=>?_) (λd=>?_)
  ·have a:k<l.length:=by simpa using d
   rw[QY a];simp only[Za];rw[drop_eq_getElem_cons a,Qbz] at b;refine Ok.ite (λhi=>Ok.mk ?_) (λhi=>Ok.mk ⟨m - 1,by omega,?_⟩)
   ·rw[Zc hi] at b;exact b
   ·rw[Zb (by rw[hi];decide)] at b;rw[QD a (by omega)];exact⟨by omega,by omega,by rw[ZF];exact b⟩
  ·have a:¬k<l.length:=by simpa using d
   rw[drop_of_length_le (by omega)] at b;exact Ok.mk b
 obtain⟨r,t,rfl⟩:=key;exact t
def topS (x:Qc) (k j:Int) (f:Qe):Qe×Bool:=
 if upIx x k j<0 then (QcV,false)
 else match idx x.Xa (upIx x k j) with
  | none=>(QcV,false)
  | some q=>match field? x (upIx x k j) (Qal q f.Of) with | some g=>(g,true) | none=>(QcV,false)
def Qy7 (g:Qe):Bool:=((((g.Xi==2)||(g.Xi==3))||(g.Xi==4))||(g.Xi==5))||(g.Xi==8)
def QfQ (x:Qc) (q:QA) (k j:Int) (f:Qe):Int:=
 if f.Xi=0 then Qbz [⟨decide (j>0),13⟩]
 else if f.Xi=1 then Qbz [⟨decide (upIx x k j<0),12⟩]
 else if f.Xi=4 then Qbz [⟨(f.Of !=[])&&(((decide (Qal q f.Of<0))||(decide (Qal q f.Of>=j)))||((match field? x k (Qal q f.Of) with | some g=>(g,true) | none=>(QcV,false)).1.Xi !=4)),12⟩]
 else if f.Xi=5 then Qbz [⟨!(x.Xd.any λl=>l.Xj==f.Of),12⟩]
 else if f.Xi=6 then Qbz [⟨decide ((QfP x k f).1<0),12⟩,⟨((QfP x k f).2.length:Int) !=1,11⟩]
 else if f.Xi=7 then Qbz [⟨decide (upIx x k j<0),12⟩,⟨((!(topS x k j f).2)||((topS x k j f).1.Xi !=6))||(Q3 x (topS x k j f).1.Of !=k),13⟩]
 else if f.Xi=8 then Qbz [⟨decide (upIx x k j<0),12⟩,⟨(!(topS x k j f).2)||(!Qy7 (topS x k j f).1),13⟩]
 else 0
def Qon (x:Qc) (k j:Int) (b:0<=k):upIx x k j<k/\-1<=upIx x k j:=by
 have a:∀g,QjN x k g<k/\-1<=QjN x k g:=λg=>by have:=Qgj x g.Of;unfold QjN;split<;>omega
 unfold upIx
 cases field? x k j with
 | none=>exact⟨by dsimp only;omega,by dsimp only;omega⟩
 | some f=>
  dsimp only;split
  ·split
   ·omega
   ·split
    ·split
     ·split
      ·exact a _
      ·omega
     ·omega
    ·omega
  ·split
   ·exact a _
   ·omega
def Qy8 {x:Qc} {k:Int} {f:Qe} (hx:Few x) (b:0<=k) (d:k<x.Xa.length):QdP ⟨x,k,j,f⟩=some (topS x k j f):=by
 unfold QdP topS;rw[Qfa hx];simp only[Za];by_cases hu:upIx x k j<0
 ·rw[Zc (by simpa using hu),Zc hu];rfl
 ·rw[Zb (by simpa using hu),Zb hu];have g:=Qon x k j b;obtain⟨q,e,a⟩:=QcF (l:=x.Xa) (i:=upIx x k j) (by omega) (by omega);rw[e];simp only[Za];rw[Qbk (by have:=hx.2 q a;omega)];simp only[Za];rw[Qln];cases field? x (upIx x k j) (Qal q f.Of)<;>rfl
def QqP {x:Qc} {k:Int} {f:Qe} (hx:Few x):QcP ⟨x,k,j,f⟩=some (decide (upIx x k j<0)):=by unfold QcP;rw[Qfa hx];rfl
def QBu {x:Qc} {k:Int} {q:QA} {f:Qe} (hx:Few x) (hl:x.Xd.length<=1000) (E:idx x.Xa k=some q) (hf:field? x k j=some f) (h:(Qcm f.Xi).isSome=true):Qn1 (QcB.mk (Qcm f.Xi)).check ⟨x,k,j,f⟩=some (QfQ x q k j f):=by
 obtain⟨I,z,K,e,F,C,g,H⟩:=QbT hf;rw[E] at e;cases e;have one:∀a,QaS [a]=some (Qbz [a]):=λa=>QiD (by simp);have d:∀a b,QaS [a,b]=some (Qbz [a,b]):=λa b=>QiD (by simp);unfold QfQ;dsimp only;by_cases m:f.Xi=0
 ·rw[Zc m,m];show Qe0 _=_;unfold Qe0;rw[one];rfl
 rw[Zb m];by_cases o:f.Xi=1
 ·rw[Zc o,o];show Qe1 _=_;unfold Qe1;rw[QqP hx];simp only[Za];rw[one];rfl
 rw[Zb o];by_cases t:f.Xi=4
 ·rw[Zc t,t];show Qe2 _=_;unfold Qe2;dsimp only;rw[E];simp only[Za];rw[Qbk (by have:=hx.2 q C;omega)];simp only[Za];rw[Qln];simp only[Za];rw[one];rfl
 rw[Zb t];by_cases u:f.Xi=5
 ·rw[Zc u,u];show Qe3 _=_;unfold Qe3;dsimp only;rw[Qk5 (s:=x.Xd) (f:=λx0=>Qfz x0 ⟨x,k,j,f⟩) (p:=λl=>l.Xj==f.Of) (by omega) (λl _=>rfl)];simp only[Za];rw[one];rfl
 rw[Zb u];by_cases w:f.Xi=6
 ·rw[Zc w];show Qn1 (Qcm f.Xi) _=_;rw[w];show Qe4 _=_;unfold Qe4;dsimp only;rw[Qro hx z];simp only[Za];rw[d];rfl
 rw[Zb w];by_cases y:f.Xi=7
 ·rw[Zc y];show Qn1 (Qcm f.Xi) _=_;rw[y];show Qe5 _=_;unfold Qe5;rw[Qy8 hx z g,QqP hx];simp only[Za];rw[QdR (by have:=hx.1;omega)]
  cases L:((!(topS x k j f).2)||((topS x k j f).1.Xi !=6)) with
  | true=>simp only[Sim.opt,Bool.true_or];show (QaS _).bind _=_;rw[d];rfl
  | false=>simp only[Sim.opt,beq_self_eq_true,if_true,Za];rw[d];rfl
 rw[Zb y];by_cases D:f.Xi=8
 ·rw[Zc D];show Qn1 (Qcm f.Xi) _=_;rw[D];show Qe6 _=_;unfold Qe6;rw[Qy8 hx z g,QqP hx];simp only[Za];rw[d];rfl
 rw[Qcm,Zb m,Zb o,Zb t,Zb u,Zb w,Zb y,Zb D] at h;cases h
def QBv {x:Qc} {k:Int} {q:QA} {f:Qe} (h:(Qcm f.Xi).isSome=false):QfQ x q k j f=0:=by
 unfold QfQ;by_cases a:f.Xi=0
 ·rw[a] at h;cases h
 by_cases b:f.Xi=1
 ·rw[b] at h;cases h
 by_cases d:f.Xi=4
 ·rw[d] at h;cases h
 by_cases e:f.Xi=5
 ·rw[e] at h;cases h
 by_cases g:f.Xi=6
 ·rw[g] at h;cases h
 by_cases l:f.Xi=7
 ·rw[l] at h;cases h
 by_cases m:f.Xi=8
 ·rw[m] at h;cases h
 rw[Zb a,Zb b,Zb d,Zb e,Zb g,Zb l,Zb m]
def Qjb (x:Qc) (i:Int) (q:QA):Int:=Qbz [⟨decide (Q3 x q.Xj<i),7⟩,⟨((q.Xb.length:Int)==0)||((q.Xb.headD QcV).Xi !=0),11⟩]
def QFh {x:Qc} {i:Int} {q:QA} (hx:Few x) (b:idx x.Xa i=some q):QhC x i=some (Qjb x i q):=by
 unfold QhC Qjb;rw[b];simp only[Za];rw[QdR (by have:=hx.1;omega)];simp only[Za]
 cases hf:q.Xb with
 | nil=>show (QaS _).bind _=_;rw[QiD (by simp)];rfl
 | cons f a=>
  have e:(((f::a).length:Int)==0)=false:=by simp;omega
  rw[e];simp only[Sim.opt,beq_self_eq_true,if_true];rw[show idx (f::a) (0:Int)=some f from rfl];simp only[Za];rw[QiD (by simp)];rfl
def Ql9 (x:Qc) (k:Int) (n:Str):Qe×Bool:=match idx x.Xa k with | none=>(QcV,false) | some q=>match field? x k (Qal q n) with | some g=>(g,true) | none=>(QcV,false)
def Qdm (x:Qc) (k:Int) (n:Str):Bool:=!((n==[])||decide (k<0))&&!(Ql9 x k n).2
def Qc3 (x:Qc) (k:Int) (n:Str):Bool:=!((n==[])||decide (k<0))&&(((Ql9 x k n).1.Xi !=2)&&((Ql9 x k n).1.Xi !=4))
def Qoo (x:Qc) (i:Nat) (r:QL):Int:=Qbz [⟨(x.Xc.take i).any λs=>s.Xj==r.Xj,7⟩,⟨(decide (Q3 x r.Xi<0)||Qdm x (Q3 x r.Xi) r.A)||Qdm x (Q3 x r.Xi) r.B,12⟩,⟨Qc3 x (Q3 x r.Xi) r.A||Qc3 x (Q3 x r.Xi) r.B,13⟩,⟨r.A==r.B,1⟩]
def Qrt {x:Qc} {k:Int} {n:Str} {a b:Bool} (hx:Few x) (e:k<x.Xa.length) (g:Bool×Bool->β):
  (if ((n==([]:Str))||(decide (k<0)))=true then some (g (a,b)) else (idx x.Xa k).bind λt53=>(Qa4 t53 n).bind λt56=>(Qdw x k t56).bind λt57=>some (g ((a||(!t57.2)),(b||((t57.1.Xi !=2)&&(t57.1.Xi !=4))))))=some (g (a||Qdm x k n,b||Qc3 x k n)):=by
 unfold Qdm Qc3
 cases h:((n==([]:Str))||(decide (k<0))) with
 | true=>rw[Zc rfl];simp
 | false=>rw[Zb (by decide)];simp only[Bool.or_eq_false_iff,ZI] at h;obtain⟨q,m,d⟩:=QcF (l:=x.Xa) (i:=k) (by omega) e;unfold Ql9;rw[m];simp only[Za];rw[Qbk (by have:=hx.2 q d;omega)];simp only[Za];rw[Qln];cases field? x k (Qal q n)<;>simp
def QFi {x:Qc} (hx:Few x) (hl:x.Xc.length<=1000) (hi:i<x.Xc.length) (l:x.Xc[i]?=some r):QhD x (i:Int)=some (Qoo x i r):=by
 unfold QhD;rw[Qhd,l];simp only[Za];have m:Sim.sub x.Xc 0 (i:Int)=some (x.Xc.take i):=by unfold Sim.sub;rw[Zc ⟨by decide,by omega,by omega⟩];simp
 rw[m];simp only[Za];rw[QnK (f:=λx0=>Qh4 x0 r) (p:=λs=>s.Xj==r.Xj) (by rw[ZU];omega) (λs _=>rfl)];simp only[Za];rw[QdR (by have:=hx.1;omega)];simp only[Za];have g:=(Qgj x r.Xi).2
 let e:Nat->Int×Bool×Bool:=λn=>match n with
  | 0=>(0,decide (Q3 x r.Xi<0),false)
  | 1=>(1,decide (Q3 x r.Xi<0)||Qdm x (Q3 x r.Xi) r.A,false||Qc3 x (Q3 x r.Xi) r.A)
  | _=>(2,(decide (Q3 x r.Xi<0)||Qdm x (Q3 x r.Xi) r.A)||Qdm x (Q3 x r.Xi) r.B,(false||Qc3 x (Q3 x r.Xi) r.A)||Qc3 x (Q3 x r.Xi) r.B)
 refine QdA 2 e ((e 2).2.1,(e 2).2.2) rfl (λn t=>?_) rfl ?_
 ·have:n=0\/n=1:=by omega
  rcases this with rfl | rfl
  ·have h:=Qrt (x:=x) (k:=Q3 x r.Xi) (n:=r.A) (a:=decide (Q3 x r.Xi<0)) (b:=false) hx g id;show (Option.bind (if _ then _ else _) _:Option _)=_;exact (Ya (λo=>Option.bind o (λd:Bool×Bool=>some (Sum.inl ((i64.wrap ((0:Int)+(1:Int))),d.1,d.2)))) h:_)
  ·have h:=Qrt (x:=x) (k:=Q3 x r.Xi) (n:=r.B) (a:=decide (Q3 x r.Xi<0)||Qdm x (Q3 x r.Xi) r.A) (b:=false||Qc3 x (Q3 x r.Xi) r.A) hx g id;show (Option.bind (if _ then _ else _) _:Option _)=_;exact (Ya (λo=>Option.bind o (λd:Bool×Bool=>some (Sum.inl ((i64.wrap ((1:Int)+(1:Int))),d.1,d.2)))) h:_)
 ·dsimp only;rw[QiD (by simp)];simp[e,Qoo]
def Qep (n:Nat) (g:Nat->List β) (B:Nat) (b:∀k,k<n->(g k).length<=B) (a0:List β) {body:Int×List β->Option ((Int×List β)⊕List β)} (d:∀k,k<n->∀a:List β,a.length<=a0.length+k * B->body ((k:Int),a)=some (.inl (((k+1:Nat):Int),a++g k))) (e:∀a,body ((n:Int),a)=some (.inr a)):
  Qr body ((0:Int),a0)=some (a0++(range n).flatMap g):=by
 have hlen:∀m,m<=n->((range m).flatMap g).length<=m * B:=λm=>by
  induction m with
  | zero=>intro _;simp
  | succ m l=>intro hm;rw[Yp,ZK,Zf,Nat.succ_mul];have s:=l (by omega);have t:=b m (by omega);simp only[flatMap_cons,flatMap_nil,Yc];omega
 have h:=Qio (body:=body) n (λm=>((m:Int),a0++(range m).flatMap g)) (a0++(range n).flatMap g) (λk o=>?_) ?_
 ·simpa using h
 ·rw[d k o _ (by rw[Zf];have:=hlen k (by omega);omega),Yp,ZK];simp
 ·rw[e]
def prob (k j r e:Int):List QI:=if e=0 then [] else [⟨k,j,r,e⟩]
def QiE (k j r e:Int):(prob k j r e).length<=1:=by unfold prob;split<;>simp
def Qqa {k r e:Int} {l:List QI} (h:l.length<=1000000000):QcU k j r e l=some (l++prob k j r e):=by
 unfold QcU prob;by_cases a:e=0
 ·rw[Zb (by simp[a]),Zc a,Yc];rfl
 ·rw[Zc (by simpa using a),Zb a,QdX (by rw[length_singleton];omega)];rfl
def QwA (x:Qc) (i:Nat) (l:Qm):Int:=Qbz [⟨(x.Xd.take i).any λm=>m.Xj==l.Xj,7⟩]
def Qk6 (x:Qc) (q:QA) (k j:Int) (f:Qe):Int:=if Qal q f.Xj<j then 7 else QfQ x q k j f
def Qhk (x:Qc) (i:Nat):List QI:=match x.Xd[i]? with | some l=>prob (-1) (i:Int) (-1) (QwA x i l) | none=>[]
def QhM (x:Qc) (i:Nat) (q:QA) (j:Nat):List QI:=match q.Xb[j]? with | some f=>prob (i:Int) (j:Int) (-1) (Qk6 x q (i:Int) (j:Int) f) | none=>[]
def QkG (x:Qc) (i:Nat) (q:QA):List QI:=(range q.Xb.length).flatMap (QhM x i q)
def QgB (x:Qc) (i:Nat):List QI:=match x.Xa[i]? with | some q=>prob (i:Int) (-1) (-1) (Qjb x (i:Int) q)++QkG x i q | none=>[]
def Qko (x:Qc) (i:Nat):List QI:=match x.Xc[i]? with | some r=>prob (-1) (-1) (i:Int) (Qoo x i r) | none=>[]
def Qex (x:Qc):List QI:=(range x.Xd.length).flatMap (Qhk x)
def Qgd (x:Qc):List QI:=(range x.Xa.length).flatMap (QgB x)
def Qqb (x:Qc):List QI:=(range x.Xc.length).flatMap (Qko x)
def Qlp (x:Qc) (i:Nat):(Qhk x i).length<=1:=by unfold Qhk;cases x.Xd[i]? with | none=>simp | some f=>exact QiE _ _ _ _
def QmL (x:Qc) (i:Nat) (q:QA) (j:Nat):(QhM x i q j).length<=1:=by unfold QhM;cases q.Xb[j]? with | none=>simp | some f=>exact QiE _ _ _ _
def Qru (x:Qc) (i:Nat):(Qko x i).length<=1:=by unfold Qko;cases x.Xc[i]? with | none=>simp | some f=>exact QiE _ _ _ _
def Qbb (x:Qc):List QI:=if Qgc x=0 then Qex x++Qgd x++Qqb x else [⟨-1,-1,-1,Qgc x⟩]
def QcW (n:Nat) (g:Nat->List β) (B:Nat) (a:∀k,k<n->(g k).length<=B):((range n).flatMap g).length<=n * B:=by
 induction n with
 | zero=>simp
 | succ n b=>rw[Yp,ZK,Zf,Nat.succ_mul];have d:=b λk e=>a k (by omega);have h:=a n (by omega);simp only[flatMap_cons,flatMap_nil,Yc];omega
structure Qqc (x:Qc):Prop where
 few:Few x
 fine:Fine x
 lives:x.Xd.length<=1000
 rules:x.Xc.length<=1000
def Sz.short {x:Qc} (h:Sz x):Qqc x:=⟨h.few,h.fine,by have:=h.2.1.1;omega,by have:=h.2.2.1;omega⟩
def QoN {x:Qc} {q:QA} (h:q.Xb.length<=1000):(QkG x i q).length<=1000:=by have:=QcW q.Xb.length (QhM x i q) 1 (λj _=>QmL x i q j);unfold QkG;omega
def QBw {x:Qc} (h:Qqc x):QgW x=some (Qbb x):=by
 obtain⟨hx,g,z,C⟩:=h;unfold QgW;rw[QBt g];simp only[Za];unfold Qbb;by_cases u:Qgc x=0
 ·rw[Zb (by simp[u]),Zc u];have I:(Qex x).length<=1000:=by
   have:=QcW x.Xd.length (Qhk x) 1 (λj _=>Qlp x j);unfold Qex;omega
  have D:∀k,k<x.Xa.length->(QgB x k).length<=1001:=λk a=>by unfold QgB;rw[Zd a];dsimp only;have:=QoN (x:=x) (i:=k) (hx.2 _ (Zo a));have:=QiE k (-1) (-1) (Qjb x k x.Xa[k]);rw[Zf];omega
  have K:(Qgd x).length<=1001000:=by have:=QcW x.Xa.length _ 1001 D;have:=hx.1;unfold Qgd;omega
  have F:=hx.1;rw[Qep x.Xd.length (Qhk x) 1 (λj _=>Qlp x j) [] (λk a d b=>?_) (λd=>Zb (by simp))]
  ·rw[show ([]:List QI)++(range x.Xd.length).flatMap (Qhk x)=Qex x from rfl];simp only[Za];rw[Qep x.Xa.length (QgB x) 1001 D (Qex x) (λk a d b=>?_) (λd=>Zb (by simp))]
   ·rw[show Qex x++(range x.Xa.length).flatMap (QgB x)=Qex x++Qgd x from rfl];simp only[Za];rw[Qep x.Xc.length (Qko x) 1 (λj _=>Qru x j) (Qex x++Qgd x) (λk a d b=>?_) (λd=>Zb (by simp))]
    ·rfl
    ·rw[Zf] at b;rw[Zc (by simpa using a)];dsimp only;rw[QFi hx C a (Zd a)];simp only[Za];rw[Qqa (by omega)];simp only[Za];unfold Qko;rw[QD a (by omega),Zd a]
   ·have w:=QY a;have H:=hx.2 _ (Zo a);rw[Zc (by simpa using a)];dsimp only;rw[w];simp only[Za];rw[QFh hx w];simp only[Za];rw[Qqa (by omega)];simp only[Za];have pl:=QiE k (-1) (-1) (Qjb x k x.Xa[k]);rw[Qep x.Xa[k].Xb.length (QhM x k x.Xa[k]) 1 (λj _=>QmL x k _ j) _ (λj s E o=>?_) (λd=>Zb (by simp))]
    ·simp only[Za];unfold QgB;rw[QD a (by omega),Zd a,ZE];rfl
    ·rw[Zf] at o;rw[Zc (by simpa using s)];dsimp only;rw[QY s];simp only[Za];rw[Qbk (by omega)];simp only[Za];rw[QiD (by simp)];simp only[Za];have hf:field? x (k:Int) (j:Int)=some x.Xa[k].Xb[j]:=Qgz (by omega) (by omega) w (QY s);have e:(if ((Qcm x.Xa[k].Xb[j].Xi).isSome&&(Qbz [⟨decide (Qal x.Xa[k] x.Xa[k].Xb[j].Xj<(j:Int)),7⟩]==0))=true then (Qn1 (QcB.mk (Qcm x.Xa[k].Xb[j].Xi)).check ⟨x,k,j,x.Xa[k].Xb[j]⟩).bind λt97=>some t97 else some (Qbz [⟨decide (Qal x.Xa[k] x.Xa[k].Xb[j].Xj<(j:Int)),7⟩]))=some (Qk6 x x.Xa[k] k j x.Xa[k].Xb[j]):=by
      unfold Qk6;by_cases t:Qal x.Xa[k] x.Xa[k].Xb[j].Xj<(j:Int)
      ·rw[Zc t,Zb (by simp[Qbz,t])];simp[Qbz,t]
      ·rw[Zb t];have e0:Qbz [⟨decide (Qal x.Xa[k] x.Xa[k].Xb[j].Xj<(j:Int)),7⟩]=0:=by simp[Qbz,t]
       rw[e0]
       cases y:(Qcm x.Xa[k].Xb[j].Xi).isSome with
       | true=>rw[Zc (by simp),QBu hx z w hf y];rfl
       | false=>rw[Zb (by simp),QBv y]
     rw[e];simp only[Za];rw[Qqa (by omega)];simp only[Za];unfold QhM;rw[QD s (by omega),Zd s]
  ·rw[Zm] at b;rw[Zc (by simpa using a)];dsimp only;rw[QY a];simp only[Za];have y:Sim.sub x.Xd 0 (k:Int)=some (x.Xd.take k):=by
    unfold Sim.sub;rw[Zc ⟨by decide,by omega,by omega⟩];simp
   rw[y];simp only[Za];rw[Qk5 (f:=λx0=>Qhi x0 x.Xd[k]) (p:=λm=>m.Xj==x.Xd[k].Xj) (by rw[ZU];omega) (λl _=>rfl)];simp only[Za];rw[QiD (by simp)];simp only[Za];rw[Qqa (by omega)];simp only[Za];unfold Qhk;rw[QD a (by omega),Zd a];rfl
 ·rw[Zc (by simpa using u),Zb u]
def QmM {k r e:Int} (h:prob k j r e=[]):e=0:=by
 unfold prob at h;split at h
 ·assumption
 ·cases h
def clean {x:Qc} (a:Qbb x=[]) {k:Int} {q:QA} {f:Qe} (h:idx x.Xa k=some q) (hf:field? x k j=some f):QfQ x q k j f=0:=by
 obtain⟨y,s,t,b,d,_,u,w⟩:=QbT hf;rw[h] at b;cases b;obtain⟨i,rfl⟩:=ZG s;obtain⟨n,rfl⟩:=ZG t;rw[Qhd] at h d;unfold Qbb at a;split at a
 ·simp only[append_eq_nil_iff] at a;have l:=a.1.2;unfold Qgd at l;rw[flatMap_eq_nil_iff] at l;have e:=l i (Ym.2 (by omega));unfold QgB at e;rw[h] at e;dsimp only at e;rw[append_eq_nil_iff] at e;have m:=e.2;unfold QkG at m;rw[flatMap_eq_nil_iff] at m;have o:=m n (Ym.2 (by omega));unfold QhM at o;rw[d] at o;have g:=QmM o;unfold Qk6 at g;split at g
  ·cases g
  ·exact g
 ·cases a
def Qce {a:Bool} {c:Int} {r:List Qaq} (h:Qbz (⟨a,c⟩::r)=0) (b:c≠0):a=false/\Qbz r=0:=by
 unfold Qbz at h
 cases a with
 | true=>exact (b h).elim
 | false=>exact⟨rfl,h⟩
def QBx {x:Qc} {q:QA} {k:Int} {f:Qe} (h:QfQ x q k j f=0) (a:f.Xi=1\/f.Xi=7\/f.Xi=8):0<=upIx x k j:=by
 unfold QfQ at h;rcases a with a | a | a
 ·rw[Zb (by omega),Zc a] at h;have:=(Qce h (by decide)).1;simpa using this
 ·rw[Zb (by omega),Zb (by omega),Zb (by omega),Zb (by omega),Zb (by omega),Zc a] at h;have:=(Qce h (by decide)).1;simpa using this
 ·rw[Zb (by omega),Zb (by omega),Zb (by omega),Zb (by omega),Zb (by omega),Zb (by omega),Zc a] at h;have:=(Qce h (by decide)).1;simpa using this
def Qul {x:Qc} {q:QA} {k:Int} {f:Qe} (hf:field? x k j=some f) (h:QfQ x q k j f=0) (m:f.Xi=6):∃o a,QkD x k j=(o,a)/\k<o/\upIx x o a=k:=by
 obtain⟨_,t,_⟩:=QbT hf;unfold QfQ at h;rw[Zb (by omega),Zb (by omega),Zb (by omega),Zb (by omega),Zc m] at h;obtain⟨e1,h⟩:=Qce h (by decide);obtain⟨e2,_⟩:=Qce h (by decide);have b:¬(QfP x k f).1<0:=by simpa using e1
 have d:(QfP x k f).2.length=1:=by
  have:((QfP x k f).2.length:Int)=1:=by simpa using e2
  omega
 obtain⟨a,ha⟩:=length_eq_one_iff.1 d;unfold QfP at b ha;split at b
 ·exact (b (by decide)).elim
 ·rename_i e;rw[Zb e] at ha;have g:k<Q3 x f.Of:=by
   rcases Int.lt_or_le k (Q3 x f.Of) with h | h
   ·exact h
   ·exact (e (.inr h)).elim
  refine⟨Q3 x f.Of,a,?_,g,?_⟩
  ·unfold QkD;rw[hf];dsimp only;unfold QfP;rw[Zb e];dsimp only at ha ⊢;rw[ha]
  ·dsimp only at ha;unfold shl at ha;split at ha
   ·rename_i l _;have hm:a∈((range l.Xb.length).filter (Qf8 x (Q3 x f.Of) k f.Xj l.Xb)).map Int.ofNat:=by rw[ha];exact mem_singleton_self _
    obtain⟨n,s,rfl⟩:=ZP.1 hm;have hp:=(Yi.1 s).2;unfold Qf8 at hp;split at hp
    ·simp only[Zi,Yf] at hp;exact hp.2
    ·cases hp
   ·cases ha
def out_or (n:Nat):((decide ((n:Int)<1))||(decide ((n:Int)>12)))=!inW (n:Int) 1 12:=by
 unfold inW;by_cases a:(n:Int)<1
 ·rw[decide_eq_true a,decide_eq_false (by omega:¬(n:Int)>=1)];rfl
 ·rw[decide_eq_false a,decide_eq_true (by omega:(n:Int)>=1)];by_cases b:(n:Int)>12
  ·rw[decide_eq_true b,decide_eq_false (by omega:¬(n:Int)<=12)];rfl
  ·rw[decide_eq_false b,decide_eq_true (by omega:(n:Int)<=12)];rfl
def Qj0 (s:Str):Qbw s=some (QX s):=by
 unfold Qbw QX;rw[out_or]
 cases s with
 | nil=>rfl
 | cons c s=>
  cases h:inW ((c::s).length:Int) 1 12 with
  | false=>rfl
  | true=>
   have hl:=(Qdi h).2;rw[show idx (c::s) (0:Int)=some c from rfl];simp only[Sim.opt,Bool.not_true,beq_self_eq_true,if_true,Za];rw[show Qfk (c.toNat:Int)=some (QcZ (c.toNat:Int)) from rfl];simp only[Za]
   cases d:QcZ (c.toNat:Int) with
   | false=>simp[d]
   | true=>
    rw[Zb (by decide),Qgy (c::s) (λb=>QcZ (b.toNat:Int)||Qg1 (b.toNat:Int)) false (λk a=>?_) (Zb (by simp))]
    ·have e:(Qab (c::s)).all (λc=>QcZ c||Qg1 c)=(c::s).all (λb=>QcZ (b.toNat:Int)||Qg1 (b.toNat:Int)):=by
      unfold Qab;rw[all_map];rfl
     rw[e];simp only[headD_cons,d,Bool.true_and,Za];cases (c::s).all (λb=>QcZ (b.toNat:Int)||Qg1 (b.toNat:Int))<;>rfl
    ·rw[Zc (decide_eq_true (ZR.2 a)),QY a];simp only[Za];rw[show Qfk (((c::s)[k]).toNat:Int)=some (QcZ (((c::s)[k]).toNat:Int)) from rfl];simp only[Za];rw[QD a (by omega)]
     cases QcZ (((c::s)[k]).toNat:Int) with
     | true=>rfl
     | false=>simp only[Bool.not_false,beq_self_eq_true,if_true,Za,Bool.true_and,Bool.false_or];rw[show Qi0 (((c::s)[k]).toNat:Int)=some (Qg1 (((c::s)[k]).toNat:Int)) from rfl];simp only[Za];cases Qg1 (((c::s)[k]).toNat:Int)<;>rfl
def Qtp {l:List Str} (hl:l.length<=1000000):QfW l=some (l.all QX):=by
 unfold QfW;rw[Qgy l QX false (λk a=>?_) (Zb (by simp))]
 ·cases l.all QX<;>rfl
 ·rw[Zc (by simpa using a),QY a];simp only[Za];rw[Qj0];simp only[Za];rw[QD a (by omega)];cases QX l[k]<;>rfl
def QBy {x:Qm} (b:x.Xe.length<=1000000) (d:x.Xg.length<=1000000):QgN x=some (QfC x):=by
 unfold QgN QfC;rw[Qj0];simp only[Za]
 cases QX x.Xj with
 | false=>rfl
 | true=>
  rw[show Qbe (x.Xe.length:Int) 1 12=some (inW (x.Xe.length:Int) 1 12) from rfl];simp only[Sim.opt,Bool.not_true,beq_self_eq_true,if_true,Za,Bool.true_and,Bool.false_or]
  cases inW (x.Xe.length:Int) 1 12 with
  | false=>rfl
  | true=>
   rw[Qtp b];simp only[Bool.not_true,beq_self_eq_true,if_true,Za,Bool.true_and,Bool.false_or]
   cases x.Xe.all QX with
   | false=>rfl
   | true=>
    by_cases hm:(x.Xg.length:Int)<=32
    ·rw[Zb (by simp;omega),decide_eq_true hm,Qgy x.Xg (QeI (x.Xe.length:Int)) false (λk a=>?_) (Zb (by simp))]
     ·simp only[Bool.true_and,Za];cases x.Xg.all (QeI (x.Xe.length:Int))<;>rfl
     ·rw[Zc (decide_eq_true (ZR.2 a)),QY a,w64 (n:=(x.Xe.length:Int) - 1) (by omega) (by omega)];simp only[Za];rw[show Qbe x.Xg[k].a0 0 ((x.Xe.length:Int) - 1)=some (inW x.Xg[k].a0 0 ((x.Xe.length:Int) - 1)) from rfl];simp only[Za];rw[QD a (by omega)];unfold QeI
      cases inW x.Xg[k].a0 0 ((x.Xe.length:Int) - 1) with
      | false=>rfl
      | true=>simp only[Bool.not_true,beq_self_eq_true,if_true,Za,Bool.true_and,Bool.false_or];rw[show Qbe x.Xg[k].a1 0 ((x.Xe.length:Int) - 1)=some (inW x.Xg[k].a1 0 ((x.Xe.length:Int) - 1)) from rfl];simp only[Za];cases inW x.Xg[k].a1 0 ((x.Xe.length:Int) - 1)<;>rfl
    ·rw[Zc (by simp;omega),decide_eq_false hm];rfl
def QBz (r:QL):QgO r=some (QdY r):=by
 unfold QgO QdY;simp only[Qj0];rw[show Qbe r.N (-1048576) 1048576=some (inW r.N (-1048576) 1048576) from rfl];have ne:∀s:Str,(s !=([]:Str))=!(s==[]):=λs=>rfl;have d:∀a b:Str,((a++b) !=([]:Str))=!((a==[])&&(b==[])):=λa b=>by cases a<;>cases b<;>rfl
 rw[ne,ne,d];cases (r.A==[])<;>cases (r.B==[])<;>cases QX r.A<;>cases QX r.B<;>cases QX r.Xj<;>cases QX r.Xi<;>rfl
def QBA {f:Qe} (b:f.Words.length<=1000000) (d:f.Xf.length<=1000000):QgL f=some (Qi9 f.Words f.Xf):=by
 rw[<-Qrq b d];unfold QgL QdO;have e:(λa:Int×Int=>((if (decide (a.1<(f.Xf.length:Int)))=true then (idx f.Xf a.1).bind λt15=>(Qbe t15 (0:Int) (1048576:Int)).bind λt17=>(if (!t17)=true then (some (.inr (.inr false))) else (idx f.Xf a.1).bind λt23=>(some (.inl ((i64.wrap (a.1+(1:Int))),(i64.wrap (a.2+t23)))))) else (some (.inr (.inl a.2)))):Option ((Int×Int)⊕((Int)⊕(Bool)))))=
   λa:Int×Int=>((if (decide (a.1<(f.Xf.length:Int)))=true then (idx f.Xf a.1).bind λt12=>(QbJ t12 (0:Int) (1048576:Int)).bind λt15=>(if (!t15)=true then (some (.inr (.inr false))) else (some (.inl ((i64.wrap (a.1+(1:Int))),(i64.wrap (a.2+t12)))))) else (some (.inr (.inl a.2)))):Option ((Int×Int)⊕((Int)⊕(Bool)))):=by
  funext s
  split
  ·cases hi:idx f.Xf s.1 with
   | none=>rfl
   | some v=>rfl
  ·rfl
 rw[e];congr 1
 funext o
 cases o with
 | inr p=>rfl
 | inl p=>dsimp only;rw[Qtp b,QnL (p:=QX) b (λs _=>Qgk s)];rfl

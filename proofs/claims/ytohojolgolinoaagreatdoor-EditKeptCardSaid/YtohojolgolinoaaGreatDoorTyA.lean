/- The generators of schemas give a result. No condition. -/
import Derived.Test.YtohojolgolinoaaGreatDoorGenAll
import Derived.Test.YtohojolgolinoaaGreatDoorOk
set_option linter.all false
open List Go.IntKind
namespace Go.Proofs.YtohojolgolinoaaGreatDoor
open Go.Sim
variable {α:Type} {i:Nat} {v:Int} {β:Type} {Q:β->Prop} {j:Int} {τ ρ:Int->Int} {lo hi:Int} {A:Nat->Nat->Nat->Prop} {w:Nat->Int} {B:Nat->Nat->Nat->Prop} {self:Qc->Int->Int->Option Int} {most:Int} {mp:Mp Qg}
def Oh {p n:Int} (hp:I64 p):Ok (Gf p n) (λr=>0<=r/\(1<=n->r<n)/\(n<=0->r=0)):=by
 have a:=hp;unfold I64 at a;have key:∀q:Int,0<=q->Ok (if decide (n<1) then some 0 else (nz n).bind λ_=>some (Int.tmod q n)) (λr=>0<=r/\(1<=n->r<n)/\(n<=0->r=0)):=λq b=>by
  refine Ok.ite (λh=>?_) (λh=>?_)
  ·have:n<1:=Zt h;exact Ok.mk ⟨Zx _,λh=>om,λ_=>rfl⟩
  ·have:¬n<1:=Zy h;rw[nz_of om];exact Ok.mk ⟨Int.tmod_nonneg _ b,λ_=>Int.tmod_lt_of_pos _ om,λh=>om⟩
 unfold Gf;refine Ok.bind (P:=λq=>0<=q) (Ok.ite (λh=>?_) (λh=>?_)) (λq b=>key q b)
 ·have:p<0:=Zt h;apply Ok.mk;have e1:i64.wrap (p+1)=p+1:=w64 om om;rw[e1,w64 om om];omega
 ·have:¬p<0:=Zy h;exact Ok.mk om
def Ok.around {p n:Int} {f:Int->Option β} (hp:I64 p) (a:1<=n) (k:∀r,0<=r->r<n->Ok (f r) Q):Ok ((Gf p n).bind f) Q:=(Oh hp).bind λr h=>k r h.1 (h.2.1 a)
def MOk (m:QR):Prop:=∀x∈m.L,I64 x
def Ic {m:QR} {n:Int} (hm:MOk m) (b:1<=n):Ok (QS m n) (λr=>0<=r.1/\r.1<n/\MOk r.2):=by unfold QS EM;refine Ok.bind (P:=λr=>0<=r/\r<n) (Ok.ite (λh=>Ok.mk ⟨Zx _,om⟩) (λh=>?_)) (λr a=>Ok.mk ⟨a.1,a.2,hm⟩);simp only[Bool.or_eq_false_iff,ZI] at h;refine Ok.idx om om λv d _=>?_;exact Ok.around (hm v d) b λr h0 e=>Ok.mk ⟨h0,e⟩
def Ok.take {m:QR} {n:Int} {f:Int×QR->Option β} (hm:MOk m) (b:1<=n) (k:∀r a,0<=r->r<n->MOk a->Ok (f (r,a)) Q):Ok ((QS m n).bind f) Q:=(Ic hm b).bind λr h=>k r.1 r.2 h.1 h.2.1 h.2.2
def SN (s:Str):Prop:=s.length<=20/\s.head?≠some 122
def FN (f:Qe):Prop:=SN f.Xj/\SN f.Of/\SN f.Up
def FOk (f:Qe):Prop:=f.Words.length<=6/\f.Xf.length<=6/\FN f
def Ks {l:List Qe} {a:Str} (hl:l.length<=1000):Ok (Gg l a) (λr=>-1<=r/\r<l.length):=by
 unfold Gg;refine Ok.bind (P:=λe=>match e with | .inl _=>True | .inr r=>0<=r/\r<l.length) (Ok.loop (λk s=>0<=s/\s+k=l.length) l.length ⟨om,om⟩ λk s b=>?_) (λe g=>?_)
 ·refine Ok.ite (λh=>?_) (λh=>Ok.mk trivial);have d:s<l.length:=Zt h;refine Ok.idx b.1 d λv _ _=>Ok.ite (λ_=>Ok.mk ⟨b.1,d⟩) (λ_=>Ok.mk ?_);rw[w64 om om];exact⟨k - 1,om,om,om⟩
 ·rcases e with e | e
  ·exact Ok.mk ⟨om,om⟩
  ·exact Ok.mk ⟨om,g.2⟩
def bD {k:QA} (hl:k.Xb.length<=1000):Ok (MF k) (λr=>-1<=r/\r<k.Xb.length):=by
 unfold MF;refine Ok.bind (P:=λe=>match e with | .inl _=>True | .inr r=>0<=r/\r<k.Xb.length) (Ok.loop (λn s=>0<=s/\s+n=k.Xb.length) k.Xb.length ⟨om,om⟩ λn s a=>?_) (λe d=>?_)
 ·refine Ok.ite (λh=>?_) (λh=>Ok.mk trivial);have b:s<k.Xb.length:=Zt h;refine Ok.idx a.1 b λv _ _=>Ok.ite (λ_=>Ok.mk ⟨a.1,b⟩) (λ_=>Ok.mk ?_);rw[w64 om om];exact⟨n - 1,om,om,om⟩
 ·rcases e with e | e
  ·exact Ok.mk ⟨om,om⟩
  ·exact Ok.mk ⟨om,d.2⟩
def fok {n o u:Str} {k:Int} (a:SN n) (b:SN o) (d:SN u):FOk ⟨n,o,u,k,lo,hi,[],[]⟩:=⟨sm,sm,a,b,d⟩
def Kr {c:Bool} {a b:QR} (h:c=true->MOk a) (k:MOk b):MOk (bif c==true then a else b):=by
 cases c with
 | true=>exact h rfl
 | false=>exact k
def AV (s:List α) (p:α->Bool):Int:=match s.findIdx? p with | some k=>(k:Int) | none=>-1
def H5 (s:List α) (p:α->Bool):-1<=AV s p/\AV s p<s.length:=by
 unfold AV
 cases h:s.findIdx? p with
 | none=>exact⟨dc,by show (-1:Int)<_;omega⟩
 | some k=>have:=(ZZ.1 h).1;exact⟨by show (-1:Int)<=(k:Int);omega,by show (k:Int)<_;omega⟩
def Eh (s:List α) (p:α->Bool) {body:Int->Option (Int⊕(Unit⊕Int))} (hb:∀k (h:k<s.length),body (k:Int)=if p s[k]=true then some (.inr (.inr (k:Int))) else some (.inl ((k+1:Nat):Int))) (g:body (s.length:Int)=some (.inr (.inl ()))):
  Qr body (0:Int)=some (match s.findIdx? p with | some k=>.inr (k:Int) | none=>.inl ()):=by
 obtain⟨q,b⟩:∃q:Nat->Bool,∀k (h:k<s.length),q k=p s[k]:=⟨λk=>if h:k<s.length then p s[k] else false,λk h=>dif_pos h⟩
 rcases P8 (ρ:=Unit⊕Int) s.length q (.inl ()) (λk=>.inr (k:Int))
  (λk a hp=>by rw[hb k a,Zb (by rw[<-b k a,hp];decide)]) (λk a hp=>by rw[hb k a,Zc (by rw[<-b k a,hp])]) g with⟨k,a,hp,l,e⟩ | ⟨hp,e⟩
 ·have:s.findIdx? p=some k:=by
   rw[ZZ];refine⟨a,by rw[<-b k a,hp],λj d=>?_⟩;have:=l j d;rw[b j om] at this;simp[this]
  rw[e,this]
 ·have:s.findIdx? p=none:=by
   rw[findIdx?_eq_none_iff];intro x hx;obtain⟨k,a,rfl⟩:=Yv hx;have:=hp k a
   rwa [b k a] at this
  rw[e,this]
section
variable {p:QA->Bool} {q:Qe->Bool}
def WB {s:List QA} {f:QA->Option Bool} (b:s.length<=1000000) (hf:∀x∈s,f x=some (p x)):I6 s f=some (AV s p):=by
 unfold I6;rw[Eh s p (λk a=>?_) ?_]
 ·unfold AV;cases s.findIdx? p<;>rfl
 ·rw[Zb sm]
 ·rw[Zc (sa a),QY a];show (f s[k]).bind _=_;rw[hf _ (Zr a),QD a om];rfl
def WC {s:List Qe} {f:Qe->Option Bool} (b:s.length<=1000000) (hf:∀x∈s,f x=some (q x)):I7 s f=some (AV s q):=by
 unfold I7;rw[Eh s q (λk a=>?_) ?_]
 ·unfold AV;cases s.findIdx? q<;>rfl
 ·rw[Zb sm]
 ·rw[Zc (sa a),QY a];show (f s[k]).bind _=_;rw[hf _ (Zr a),QD a om];rfl
end
def Q3 (x:Qc) (n:Str):Int:=AV x.Xa λk=>k.Xj==n
def AD (k:QA) (n:Str):Int:=AV k.Xb λf=>f.Xj==n
def GB {x:Qc} {n:Str} (hx:x.Xa.length<=1000000):EX x n=some (Q3 x n):=by unfold EX;rw[WB (f:=λx0=>PY x0 n) (p:=λk=>k.Xj==n) hx (λk _=>rfl)];rfl
def DZ {k:QA} {n:Str} (hx:k.Xb.length<=1000000):CW k n=some (AD k n):=by unfold CW;rw[WC (f:=λx0=>PZ x0 n) (q:=λk=>k.Xj==n) hx (λk _=>rfl)];rfl
def field? (x:Qc) (k j:Int):Option Qe:=if 0<=k/\0<=j then x.Xa[k.toNat]?.bind λq=>q.Xb[j.toNat]? else none
def Ar:Qe:=Qe.mk [] [] [] 0 0 0 [] []
def Cg {x:Qc} {k:Int} {f:Qe} (h:field? x k j=some f):∃q,0<=k/\0<=j/\idx x.Xa k=some q/\idx q.Xb j=some f/\q∈x.Xa/\k<x.Xa.length/\j<q.Xb.length:=by
 unfold field? at h;split at h
 ·rename_i a;have⟨q,b,d⟩:=Option.bind_eq_some_iff.1 h;refine⟨q,a.1,a.2,by rw[Ca _ a.1,b],by rw[Ca _ a.2,d],Zo b,?_,?_⟩
  ·have:=(Zf.1 b).1;omega
  ·have:=(Zf.1 d).1;omega
 ·cases h
def E0 {x:Qc} {k:Int} {q:QA} {f:Qe} (a:0<=k) (b:0<=j) (d:idx x.Xa k=some q) (e:idx q.Xb j=some f):field? x k j=some f:=by rw[Ca _ a] at d;rw[Ca _ b] at e;unfold field?;rw[Zc ⟨a,b⟩,d];exact e
def Cj {l:List α} {i:Int} (h0:0<=i) (b:i<l.length):∃v,idx l i=some v/\v∈l:=by
 have a:i.toNat<l.length:=by omega
 exact⟨l[i.toNat],by rw[Ca l h0,Zd a],Zr a⟩
def FZ (x:Qc) (k j:Int):EW x k j=some (match field? x k j with | some f=>(f,true) | none=>(Ar,false)):=by
 unfold EW;by_cases hc:(0<=k/\k<x.Xa.length)/\0<=j
 ·have⟨⟨d,l⟩,e⟩:=hc;have⟨q,a,_⟩:=Cj d l;have c:((decide (k<0)||decide (k>=(x.Xa.length:Int)))||decide (j<0))=false:=by simp;omega
  rw[c,a];show (if false||decide (j>=(q.Xb.length:Int)) then _ else _)=_;by_cases g:j<q.Xb.length
  ·have⟨f,hf,_⟩:=Cj e g;rw[Zb so,E0 d e a hf];show (idx q.Xb j).bind _=_;rw[hf];rfl
  ·rw[Zc so];have:field? x k j=none:=by
    cases h:field? x k j with
    | none=>rfl
    | some f=>have⟨m,_,_,e1,e2,_,_,b⟩:=Cg h;rw[a] at e1;cases e1;exact (g b).elim
   rw[this];rfl
 ·have c:((decide (k<0)||decide (k>=(x.Xa.length:Int)))||decide (j<0))=true:=by simp;omega
  rw[c];have:field? x k j=none:=by
   cases h:field? x k j with
   | none=>rfl
   | some f=>have⟨m,e1,e2,_,_,_,b,_⟩:=Cg h;exact (hc ⟨⟨e1,b⟩,e2⟩).elim
  rw[this];rfl
section
variable {σ ρ:Type}
def Ai {l:List α} {k:Nat} {d:α} (h:k<l.length):idx l (k:Int)=some (l.getD k d):=by rw[BN,Zg,Zd h];rfl
def C1 (l:List α) (i j:Nat) (x d:α):(l.set i x).getD j d=if j=i/\i<l.length then x else l.getD j d:=by
  rw[Zg,getElem?_set,Zg];by_cases h:i=j
  · subst h;rw[Zc rfl];by_cases a:i<l.length
    · rw[Zc a,Zc ⟨rfl,a⟩];rfl
    · rw[Zb a,Zb (λh=>a h.2),getElem?_eq_none om]
  · rw[Zb h,Zb (λe=>h e.1.symm)]
def Dr {l:List α} {k:Nat} {d:α} (h:k<l.length):l.getD k d∈l:=by rw[Zg,Zd h];exact Zr h
def Kq (l:List α) (k:Nat) (x d:α):(l++[x]).getD k d=if k<l.length then l.getD k d else if k=l.length then x else d:=by
  rw[Zg,Zg];by_cases h:k<l.length
  · rw[Zc h,Zv h]
  · rw[Zb h];by_cases a:k=l.length
    · rw[Zc a,a,ZA (Zq _),Nat.sub_self];rfl
    · rw[Zb a,getElem?_eq_none so];rfl
def Ok.cnt {Q:ρ->Prop} {body:Int×σ->Option ((Int×σ)⊕ρ)} {s0:σ} (n:Nat) (I:Nat->σ->Prop) (h0:I 0 s0)
    (g:∀i s,i<n->I i s->Ok (body ((i:Int),s)) (λo=>match o with | .inl p=>p.1=((i+1:Nat):Int)/\I (i+1) p.2 | .inr r=>Q r))
    (l:∀s,I n s->Ok (body ((n:Int),s)) (λo=>match o with | .inl _=>False | .inr r=>Q r)):Ok (Qr body ((0:Int),s0)) Q:=by
  refine Ok.loop (λk s=>∃i:Nat,s.1=i/\i+k=n+1/\i<=n/\I i s.2) (n+1) ⟨0,rfl,om,om,h0⟩ λk s m=>?_;have⟨i,e,t,u,d⟩:=m;have⟨a,s⟩:=s;dsimp only at e d;subst e;by_cases h:i<n
  · refine (g i s h d).Xo λo b=>?_
    cases o with
    | inl p=>exact⟨n - i,om,i+1,b.1,om,om,b.2⟩
    | inr r=>exact b
  · have:i=n:=by omega
    subst this;refine (l s d).Xo λo b=>?_
    cases o with
    | inl p=>exact b.elim
    | inr r=>exact b
def Ok.cnt0 {Q:ρ->Prop} {body:Int->Option (Int⊕ρ)} (n:Nat) (I:Nat->Prop) (h0:I 0)
    (d:∀i,i<n->I i->Ok (body (i:Int)) (λo=>match o with | .inl p=>p=((i+1:Nat):Int)/\I (i+1) | .inr r=>Q r))
    (g:I n->Ok (body (n:Int)) (λo=>match o with | .inl _=>False | .inr r=>Q r)):Ok (Qr body (0:Int)) Q:=by
  refine Ok.loop (λk s=>∃i:Nat,s=(i:Int)/\i+k=n+1/\i<=n/\I i) (n+1) ⟨0,rfl,om,om,h0⟩ λk s l=>?_;have⟨i,e,m,t,b⟩:=l;subst e;by_cases h:i<n
  · refine (d i h b).Xo λo a=>?_
    cases o with
    | inl p=>exact⟨n - i,om,i+1,a.1,om,om,a.2⟩
    | inr r=>exact a
  · have:i=n:=by omega
    subst this;refine (g b).Xo λo a=>?_
    cases o with
    | inl p=>exact a.elim
    | inr r=>exact a
def Ok.eq {Q:β->Prop} {x:Option β} {r:β} (h:x=some r) (k:Q r):Ok x Q:=⟨r,h,k⟩
def Ok.some_bind {Q:β->Prop} {x:Option α} {r:α} {f:α->Option β} (h:x=some r) (k:Ok (f r) Q):Ok (x.bind f) Q:=by rw[h];exact k
end
def AL {a b:Nat} (h:a<b) (x y:α):(if decide ((a:Int)<(b:Int)) then x else y)=x:=Zc (sa h)
def AK {b:Nat} (x y:α):(if decide ((b:Int)<(b:Int)) then x else y)=y:=Zb sm
abbrev Wd:=List (List Lz)
variable {W:Wd}
def g1 (W:Wd) (k:Nat):List Lz:=W.getD k []
def g2 (W:Wd) (k i:Nat):Lz:=(g1 W k).getD i []
def g3 (W:Wd) (k i f:Nat):Int:=(g2 W k i).getD f 0
def s3 (W:Wd) (k i f:Nat) (v:Int):Wd:=W.set k ((g1 W k).set i ((g2 W k i).set f v))
structure Sh (n:Nat) (c nf:Nat->Nat) (W:Wd):Prop where
  len:W.length=n
  row:∀k,k<n->(g1 W k).length=c k
  fld:∀k i,k<n->i<c k->(g2 W k i).length=nf k
section
variable {n:Nat} {c nf:Nat->Nat} {W:Wd} {k f:Nat}
def Sh.i1 (h:Sh n c nf W) (a:k<n):idx W (k:Int)=some (g1 W k):=Ai (by rw[h.len];exact a)
def Sh.i2 (h:Sh n c nf W) (a:k<n) (hi:i<c k):idx (g1 W k) (i:Int)=some (g2 W k i):=Ai (by rw[h.row k a];exact hi)
def Sh.i3 (h:Sh n c nf W) (a:k<n) (hi:i<c k) (hf:f<nf k):idx (g2 W k i) (f:Int)=some (g3 W k i f):=Ai (by rw[h.fld k i a hi];exact hf)
def g1_s3 (b:k<W.length) (a:Nat):g1 (s3 W k i f v) a=if a=k then (g1 W k).set i ((g2 W k i).set f v) else g1 W a:=by
  unfold s3 g1;rw[C1];by_cases h:a=k
  · rw[Zc ⟨h,b⟩,Zc h]
  · rw[Zb (λe=>h e.1),Zb h]
def g2_s3 (g:k<W.length) (hi:i<(g1 W k).length) (a b:Nat):g2 (s3 W k i f v) a b=if a=k/\b=i then (g2 W k i).set f v else g2 W a b:=by
  rw[g2,g1_s3 g];by_cases h:a=k
  · rw[Zc h,C1];by_cases d:b=i
    · rw[Zc ⟨d,hi⟩,Zc ⟨h,d⟩]
    · rw[Zb (λe=>d e.1),Zb (λe=>d e.2),h];rfl
  · rw[Zb h,Zb (λe=>h e.1)];rfl
def Sh.g3s (h:Sh n c nf W) (m:k<n) (hi:i<c k) (hf:f<nf k) (b d g:Nat):g3 (s3 W k i f v) b d g=if b=k/\d=i/\g=f then v else g3 W b d g:=by
  rw[g3,g2_s3 (by rw[h.len];exact m) (by rw[h.row k m];exact hi)];by_cases a:b=k/\d=i
  · rw[Zc a,C1];by_cases l:g=f
    · rw[Zc ⟨l,by rw[h.fld k i m hi];exact hf⟩,Zc ⟨a.1,a.2,l⟩]
    · rw[Zb (λe=>l e.1),Zb (λe=>l e.2.2),a.1,a.2];rfl
  · rw[Zb a,Zb (λe=>a ⟨e.1,e.2.1⟩)];rfl
def Sh.s (h:Sh n c nf W) (g:k<n) (hi:i<c k):Sh n c nf (s3 W k i f v):=by
  have b:k<W.length:=by rw[h.len];exact g
  have l:i<(g1 W k).length:=by rw[h.row k g];exact hi
  refine⟨by unfold s3;rw[ZK,h.len],λd a=>?_,λd o a m=>?_⟩
  · rw[g1_s3 b];by_cases e:d=k
    · rw[Zc e,ZK,e,h.row k g]
    · rw[Zb e,h.row d a]
  · rw[g2_s3 b l];by_cases e:d=k/\o=i
    · rw[Zc e,ZK,h.fld k i g hi,e.1]
    · rw[Zb e,h.fld d o a m]
def Ok.g1 {G:List Lz->Option β} (h:Sh n c nf W) (a:k<n) (q:Ok (G (g1 W k)) Q):Ok ((idx W (k:Int)).bind G) Q:=Ok.some_bind (h.i1 a) q
def Ok.g2 {G:Lz->Option β} (h:Sh n c nf W) (a:k<n) (hi:i<c k) (q:Ok (G (g2 W k i)) Q):Ok ((idx (Go.Proofs.YtohojolgolinoaaGreatDoor.g1 W k) (i:Int)).bind G) Q:=Ok.some_bind (h.i2 a hi) q
def Ok.g3 {G:Int->Option β} (h:Sh n c nf W) (a:k<n) (hi:i<c k) (hf:f<nf k) (q:Ok (G (g3 W k i f)) Q):Ok ((idx (Go.Proofs.YtohojolgolinoaaGreatDoor.g2 W k i) (f:Int)).bind G) Q:=Ok.some_bind (h.i3 a hi hf) q
def put_is (h:Sh n c nf W) (a:k<n) (hi:i<c k) (hf:f<nf k) (G:Wd->Option β):
    ((setAt (Go.Proofs.YtohojolgolinoaaGreatDoor.g2 W k i) (f:Int) v).bind λm=>(setAt (Go.Proofs.YtohojolgolinoaaGreatDoor.g1 W k) (i:Int) m).bind λb=>(setAt W (k:Int) b).bind G)=G (s3 W k i f v):=by
  rw[Cx (by rw[h.fld k i a hi];exact hf)];simp only[Za];rw[Cx (by rw[h.row k a];exact hi)];simp only[Za];rw[Cx (by rw[h.len];exact a)];rfl
def Ok.put {G:Wd->Option β} (h:Sh n c nf W) (a:k<n) (hi:i<c k) (hf:f<nf k) (q:Ok (G (s3 W k i f v)) Q):
    Ok ((setAt (Go.Proofs.YtohojolgolinoaaGreatDoor.g2 W k i) (f:Int) v).bind λm=>(setAt (Go.Proofs.YtohojolgolinoaaGreatDoor.g1 W k) (i:Int) m).bind λb=>(setAt W (k:Int) b).bind G) Q:=by
  rw[put_is h a hi hf];exact q
end
def Kp (A:Nat->Nat->Nat->Prop) (W a:Wd):Prop:=∀k i f,¬A k i f->g3 a k i f=g3 W k i f
def Kp.refl (A:Nat->Nat->Nat->Prop) (W:Wd):Kp A W W:=λ_ _ _ _=>rfl
def Kp.Xo {V:Wd} (h:Kp A W V) (a:∀k i f,A k i f->B k i f):Kp B W V:=λk i f b=>h k i f λe=>b (a k i f e)
def Kp.step {A:Nat->Nat->Nat->Prop} {W V U:Wd} (h:Kp A W V) (b:Kp A V U):Kp A W U:=λk i f a=>(b k i f a).trans (h k i f a)
def Sh.kp {n:Nat} {c nf:Nat->Nat} {k f:Nat} (h:Sh n c nf W) (a:k<n) (hi:i<c k) (hf:f<nf k) (ha:A k i f):Kp A W (s3 W k i f v):=λd e g b=>by rw[h.g3s a hi hf,Zb];rintro ⟨rfl,rfl,rfl⟩;exact b ha
def Few (x:Qc):Prop:=x.Xa.length<=1000/\∀k∈x.Xa,k.Xb.length<=1000
def DY (x:Qc) (k:Int) (g:Qe):Int:=if Q3 x g.Of<k then Q3 x g.Of else -1
def upIx (x:Qc) (k j:Int):Int:=
 match field? x k j with
 | none=>-1
 | some f=>
  if f.Xi=7\/f.Xi=8 then
   match idx x.Xa k with
   | none=>-1
   | some q=>if AD q f.Up<j then (match field? x k (AD q f.Up) with | some g=>if g.Xi=1 then DY x k g else -1 | none=>-1) else -1
  else if f.Xi=1 then DY x k f else -1
def WD {x:Qc} {k:Int} {g:Qe} (hx:Few x) (h:field? x k j=some g) (a:g.Xi=1):Fp self x k j=some (DY x k g):=by
 unfold Fp;rw[FZ,h];simp only[Za,Bool.not_true,a];rw[Zb dc,Zb dc,Zb dc,GB (by have:=hx.1;omega)];simp only[Za,DY];by_cases hl:Q3 x g.Of<k
 ·rw[Zc (sa hl),Zc hl]
 ·rw[Zb (sa hl),Zb hl]
def upS_is {x:Qc} {k:Int} (hx:Few x) (e:∀u g,field? x k u=some g->g.Xi=1->self x k u=some (DY x k g)):Fp self x k j=some (upIx x k j):=by
 cases hf:field? x k j with
 | none=>unfold Fp upIx;rw[FZ,hf];rfl
 | some f=>
  by_cases b:f.Xi=1
  ·rw[WD hx hf b];unfold upIx;rw[hf];simp[b]
  unfold Fp upIx;rw[FZ,hf];simp only[Za,Bool.not_true];rw[Zb dc];by_cases c:f.Xi=7\/f.Xi=8
  ·have⟨q,o,r,h,l,d,_,_⟩:=Cg hf;rw[Zc (sa c),Zc c,h];simp only[Za];rw[DZ (by have:=hx.2 q d;omega)];simp only[Za];rw[FZ];simp only[Za]
   cases m:field? x k (AD q f.Up) with
   | none=>simp
   | some g=>
    simp only;by_cases hu:AD q f.Up<j
    ·by_cases a:g.Xi=1
     ·rw[Zc (by simp[hu,a]),e _ g m a,Zc hu,Zc a];rfl
     ·rw[Zb (by simp[a]),Zc hu,Zb a]
    ·rw[Zb (by simp[hu]),Zb hu]
  ·rw[Zb (sa c),Zb c,Zc (sa b),Zb b]
def GZ {x:Qc} {k:Int} (hx:Few x):D3 x k j=some (upIx x k j):=by unfold D3;exact upS_is hx λu g h a=>WD hx h a
def WE (p:Nat->Bool) (k:Nat):((range (k+1)).filter p).map Int.ofNat=if p k=true then ((range k).filter p).map Int.ofNat++[(k:Int)] else ((range k).filter p).map Int.ofNat:=by
 rw[Ym,filter_append,Yu];by_cases h:p k=true
 ·rw[Zc h];simp[h]
 ·rw[Zb h];simp[h]
def WF (p:Nat->Bool) (k:Nat):(((range k).filter p).map Int.ofNat).length<=k:=by rw[Yh];have:=length_filter_le p (range k);simpa using this
def DG (x:Qc) (o k:Int) (a:Str) (b:List Qe) (i:Nat):Bool:=match b[i]? with | some g=>g.Xi==7&&g.Of==a&&upIx x o (i:Int)==k | none=>false
def shl (x:Qc) (o k:Int) (a:Str):Lz:=match idx x.Xa o with | some q=>((range q.Xb.length).filter (DG x o k a q.Xb)).map Int.ofNat | none=>[]
def B9 (x:Qc) (k:Int) (f:Qe):Int×Lz:=if f.Xi≠6\/Q3 x f.Of<=k then (-1,[]) else (Q3 x f.Of,shl x (Q3 x f.Of) k f.Xj)
def FX (x:Qc) (n:Str):-1<=Q3 x n/\Q3 x n<x.Xa.length:=H5 _ _
def S2 {x:Qc} {k:Int} {f:Qe} (hx:Few x) (m:0<=k):JU x k f=some (B9 x k f):=by
 unfold JU;rw[GB (by have:=hx.1;omega)];simp only[Za];unfold B9;by_cases c:f.Xi≠6\/Q3 x f.Of<=k
 ·rw[Zc (sa c),Zc c]
 rw[Zb (sa c),Zb c];have o:k<Q3 x f.Of:=by
  rcases Int.lt_or_le k (Q3 x f.Of) with h | h
  ·exact h
  ·exact (c (.inr h)).elim
 have⟨q,d,b⟩:=Cj (l:=x.Xa) (i:=Q3 x f.Of) om (FX x f.Of).2;have hl:=hx.2 q b;rw[d];simp only[Za];refine DP q.Xb.length (λn=>((n:Int),((range n).filter (DG x (Q3 x f.Of) k f.Xj q.Xb)).map Int.ofNat)) _ rfl (λn a=>?_) (Zb sm) ?_
 ·rw[Zc (sa a),QY a];simp only[Za];rw[GZ hx];have e:DG x (Q3 x f.Of) k f.Xj q.Xb n=(q.Xb[n].Xi==7&&q.Xb[n].Of==f.Xj&&upIx x (Q3 x f.Of) (n:Int)==k):=by
   unfold DG;rw[Zd a]
  have g:=WF (DG x (Q3 x f.Of) k f.Xj q.Xb) n;rw[WE,e,QD a om]
  cases r:(q.Xb[n].Xi==7&&q.Xb[n].Of==f.Xj) with
  | false=>rfl
  | true=>
   simp only[Sim.opt,Bool.true_and,if_true,beq_self_eq_true,Za]
   cases s:upIx x (Q3 x f.Of) (n:Int)==k with
   | false=>rfl
   | true=>rw[Zc rfl,Zc rfl,CK (by rw[length_singleton];omega)];rfl
 ·unfold shl;rw[d]
def Du (x:Qc) (k j:Int):Int×Int:=match field? x k j with | none=>(-1,-1) | some f=>match (B9 x k f).2 with | [a]=>((B9 x k f).1,a) | _=>(-1,-1)
def bR (l:Lz) (o:Int) (g:Int×Int->β):(if (l.length:Int) !=1 then some (g (-1,-1)) else (idx l 0).bind λt=>some (g (o,t)))=some (g (match l with | [a]=>(o,a) | _=>(-1,-1))):=by
 match l with
 | []=>rfl
 | [a]=>rfl
 | a::b::l=>rw[Zc so]
def Gz (s:List α) (p:α->Bool):decide (AV s p>=0)=s.any p:=by
 unfold AV
 cases h:s.findIdx? p with
 | none=>have:=findIdx?_eq_none_iff.1 h;rw[Eq.comm,any_eq_false.2 (λx hx=>by simp[this x hx])];rfl
 | some k=>have⟨a,hp,_⟩:=ZZ.1 h;rw[Eq.comm,Yp.2 ⟨_,Zr a,hp⟩,Eq.comm];exact decide_eq_true (Int.natCast_nonneg k)
def Gq (s:List α) (p:α->Bool):(!s.any λx=>!p x)=s.all p:=by
 induction s with
 | nil=>rfl
 | cons a s b=>simp only[any_cons,all_cons,Bool.not_or,Bool.not_not,b]
def U0 {s:List Qm} {f:Qm->Option Bool} {p:Qm->Bool} (b:s.length<=1000000) (hf:∀x∈s,f x=some (p x)):I8 s f=some (AV s p):=by
 unfold I8;rw[Eh s p (λk a=>?_) ?_]
 ·unfold AV;cases s.findIdx? p<;>rfl
 ·rw[Zb sm]
 ·rw[Zc (sa a),QY a];show (f s[k]).bind _=_;rw[hf _ (Zr a),QD a om];rfl
def nX {s:List QL} {f:QL->Option Bool} {p:QL->Bool} (b:s.length<=1000000) (hf:∀x∈s,f x=some (p x)):MT s f=some (AV s p):=by
 unfold MT;rw[Eh s p (λk a=>?_) ?_]
 ·unfold AV;cases s.findIdx? p<;>rfl
 ·rw[Zb sm]
 ·rw[Zc (sa a),QY a];show (f s[k]).bind _=_;rw[hf _ (Zr a),QD a om];rfl
def nY {s:Lz} {f:Int->Option Bool} {p:Int->Bool} (b:s.length<=1000000) (hf:∀x∈s,f x=some (p x)):Me s f=some (AV s p):=by
 unfold Me;rw[Eh s p (λk a=>?_) ?_]
 ·unfold AV;cases s.findIdx? p<;>rfl
 ·rw[Zb sm]
 ·rw[Zc (sa a),QY a];show (f s[k]).bind _=_;rw[hf _ (Zr a),QD a om];rfl
def nZ {s:List Str} {f:Str->Option Bool} {p:Str->Bool} (b:s.length<=1000000) (hf:∀x∈s,f x=some (p x)):Mg s f=some (AV s p):=by
 unfold Mg;rw[Eh s p (λk a=>?_) ?_]
 ·unfold AV;cases s.findIdx? p<;>rfl
 ·rw[Zb sm]
 ·rw[Zc (sa a),QY a];show (f s[k]).bind _=_;rw[hf _ (Zr a),QD a om];rfl
def nQ {s:List AS} {f:AS->Option Bool} {p:AS->Bool} (b:s.length<=1000000) (hf:∀x∈s,f x=some (p x)):MQ s f=some (AV s p):=by
 unfold MQ;rw[Eh s p (λk a=>?_) ?_]
 ·unfold AV;cases s.findIdx? p<;>rfl
 ·rw[Zb sm]
 ·rw[Zc (sa a),QY a];show (f s[k]).bind _=_;rw[hf _ (Zr a),QD a om];rfl
def n4 {s:List QA} {f:QA->Option Bool} {p:QA->Bool} (a:s.length<=1000000) (hf:∀x∈s,f x=some (p x)):MH s f=some (s.any p):=by unfold MH;rw[WB a hf,<-Gz];rfl
def dM {s:List QA} {f:QA->Option Bool} {p:QA->Bool} (a:s.length<=1000000) (hf:∀x∈s,f x=some (p x)):MI s f=some (s.all p):=by unfold MI;rw[n4 (p:=λx=>!p x) a (λx hx=>by show (f x).bind _=_;rw[hf x hx];rfl),<-Gq];rfl
def n6 {s:List Qe} {f:Qe->Option Bool} {p:Qe->Bool} (a:s.length<=1000000) (hf:∀x∈s,f x=some (p x)):MJ s f=some (s.any p):=by unfold MJ;rw[WC a hf,<-Gz];rfl
def n9 {s:List Qe} {f:Qe->Option Bool} {p:Qe->Bool} (a:s.length<=1000000) (hf:∀x∈s,f x=some (p x)):MK s f=some (s.all p):=by unfold MK;rw[n6 (p:=λx=>!p x) a (λx hx=>by show (f x).bind _=_;rw[hf x hx];rfl),<-Gq];rfl
def PF {s:List Qm} {f:Qm->Option Bool} {p:Qm->Bool} (a:s.length<=1000000) (hf:∀x∈s,f x=some (p x)):Hw s f=some (s.any p):=by unfold Hw;rw[U0 a hf,<-Gz];rfl
def dO {s:List Qm} {f:Qm->Option Bool} {p:Qm->Bool} (a:s.length<=1000000) (hf:∀x∈s,f x=some (p x)):ML s f=some (s.all p):=by unfold ML;rw[PF (p:=λx=>!p x) a (λx hx=>by show (f x).bind _=_;rw[hf x hx];rfl),<-Gq];rfl
def Tf {s:List QL} {f:QL->Option Bool} {p:QL->Bool} (a:s.length<=1000000) (hf:∀x∈s,f x=some (p x)):JC s f=some (s.any p):=by unfold JC;rw[nX a hf,<-Gz];rfl
def dR {s:List QL} {f:QL->Option Bool} {p:QL->Bool} (a:s.length<=1000000) (hf:∀x∈s,f x=some (p x)):MU s f=some (s.all p):=by unfold MU;rw[Tf (p:=λx=>!p x) a (λx hx=>by show (f x).bind _=_;rw[hf x hx];rfl),<-Gq];rfl
def oA {s:Lz} {f:Int->Option Bool} {p:Int->Bool} (a:s.length<=1000000) (hf:∀x∈s,f x=some (p x)):Mf s f=some (s.any p):=by unfold Mf;rw[nY a hf,<-Gz];rfl
def oB {s:List Str} {f:Str->Option Bool} {p:Str->Bool} (a:s.length<=1000000) (hf:∀x∈s,f x=some (p x)):Mh s f=some (s.any p):=by unfold Mh;rw[nZ a hf,<-Gz];rfl
def PO {s:List Str} {f:Str->Option Bool} {p:Str->Bool} (a:s.length<=1000000) (hf:∀x∈s,f x=some (p x)):JI s f=some (s.all p):=by unfold JI;rw[oB (p:=λx=>!p x) a (λx hx=>by show (f x).bind _=_;rw[hf x hx];rfl),<-Gq];rfl
def Rd {s:List AS} {f:AS->Option Bool} {p:AS->Bool} (a:s.length<=1000000) (hf:∀x∈s,f x=some (p x)):JG s f=some (s.any p):=by unfold JG;rw[nQ a hf,<-Gz];rfl
def oC {s:List AS} {f:AS->Option Bool} {p:AS->Bool} (a:s.length<=1000000) (hf:∀x∈s,f x=some (p x)):Ma s f=some (s.all p):=by unfold Ma;rw[Rd (p:=λx=>!p x) a (λx hx=>by show (f x).bind _=_;rw[hf x hx];rfl),<-Gq];rfl
def inW (n a b:Int):Bool:=decide (n>=a)&&decide (n<=b)
def Aq {n a b:Int} (h:inW n a b=true):a<=n/\n<=b:=by simpa[inW] using h
def CO (c:Int):Bool:=inW c 97 122
def Dg (c:Int):Bool:=inW c 48 57
def Bg (lo hi a b:Int):Bool:=(decide (lo>=a)&&decide (lo<=hi))&&decide (hi<=b)
def QX (s:Str):Bool:=inW (s.length:Int) 1 12&&(CO ((s.headD 0).toNat:Int)&&(AF s).all λc=>CO c||Dg c)
def Fk (s:Str):By s=some (QX s):=by
 unfold By QX
 cases s with
 | nil=>rfl
 | cons c s=>
  show (some (inW ((c::s).length:Int) 1 12)).bind _=_;simp only[Za]
  cases h:inW ((c::s).length:Int) 1 12 with
  | false=>rfl
  | true=>
   have hl:=(Aq h).2;rw[show idx (c::s) (0:Int)=some c from rfl];simp only[Sim.opt,Bool.not_true,beq_self_eq_true,if_true,Za];rw[show Md (c.toNat:Int)=some (CO (c.toNat:Int)) from rfl];simp only[Za]
   cases hc:CO (c.toNat:Int) with
   | false=>simp[hc]
   | true=>
    rw[Zb dc,oA (p:=λc=>!(CO c||Dg c)) (by simp only[AF,Yh];omega) (λx _=>?_)]
    ·simp only[Za];rw[Gq];simp[hc]
    ·show (some (CO x)).bind _=_;simp only[Za]
     cases a:CO x with
     | true=>rfl
     | false=>show some (true&&!Dg x)=_;rfl
def oD {a b:List Str} (ha:a.length<=1000000):MP a b=some (decide (a=b)):=by
 unfold MP;by_cases hl:a.length=b.length
 ·rw[Zb (by simp[hl])];have:Ok ((Qr (λ(l:Int)=>((if decide (l<(a.length:Int)) then (idx a l).bind λt18=>(idx b l).bind λt22=>if t18 !=t22 then some (.inr (.inr false)) else some (.inl (i64.wrap (l+(1:Int)))) else some (.inr (.inl ()))):Option (Int⊕(Unit⊕Bool)))) (0:Int)).bind λ(y:Unit⊕Bool)=>(match y with | .inl _=>(some true) | .inr t=>some t)) (λr=>r=decide (a=b)):=by
   refine Ok.bind (P:=λe:Unit⊕Bool=>(match e with | .inl _=>true | .inr p=>p)=decide (a=b)) (Ok.loop (λm s=>0<=s/\s+m=a.length/\a.take s.toNat=b.take s.toNat) a.length ⟨Zx _,om,sm⟩ λm s z=>?_) λe C=>by cases e<;>exact Ok.mk C
   have⟨D,F,o⟩:=z;obtain⟨k,rfl⟩:=ZB D;simp only[Zu] at o;refine Ok.ite (λu=>?_) (λu=>?_)
   ·have d:k<a.length:=by simpa using u
    rw[QY d,QY om];simp only[Za];refine Ok.ite (λhne=>Ok.mk ?_) (λx=>Ok.mk ⟨m - 1,om,?_⟩)
    ·show false=_;rw[Eq.comm,ZI];rintro rfl;simp at hne
    ·have g:a[k]=b[k]:=by simpa using x
     rw[QD d om];refine⟨om,om,?_⟩;rw[Zu,Zz d,Zz om,o,g]
   ·have d:¬k<a.length:=by simpa using u
    apply Ok.mk;show true=_;rw[Zw om,Zw om] at o;simp[o]
  obtain⟨r,E,rfl⟩:=this;exact E
 ·rw[Zc so];have:a≠b:=λh=>hl (by rw[h]);simp[this]
def eqInt {a b:Lz} (ha:a.length<=1000000):Ft a b=some (decide (a=b)):=by
 unfold Ft;by_cases hl:a.length=b.length
 ·rw[Zb (by simp[hl])];have:Ok ((Qr (λ(l:Int)=>((if decide (l<(a.length:Int)) then (idx a l).bind λt18=>(idx b l).bind λt22=>if t18 !=t22 then some (.inr (.inr false)) else some (.inl (i64.wrap (l+(1:Int)))) else some (.inr (.inl ()))):Option (Int⊕(Unit⊕Bool)))) (0:Int)).bind λ(y:Unit⊕Bool)=>(match y with | .inl _=>(some true) | .inr t=>some t)) (λr=>r=decide (a=b)):=by
   refine Ok.bind (P:=λe:Unit⊕Bool=>(match e with | .inl _=>true | .inr p=>p)=decide (a=b)) (Ok.loop (λm s=>0<=s/\s+m=a.length/\a.take s.toNat=b.take s.toNat) a.length ⟨Zx _,om,sm⟩ λm s z=>?_) λe C=>by cases e<;>exact Ok.mk C
   have⟨D,F,o⟩:=z;obtain⟨k,rfl⟩:=ZB D;simp only[Zu] at o;refine Ok.ite (λu=>?_) (λu=>?_)
   ·have d:k<a.length:=by simpa using u
    rw[QY d,QY om];simp only[Za];refine Ok.ite (λhne=>Ok.mk ?_) (λx=>Ok.mk ⟨m - 1,om,?_⟩)
    ·show false=_;rw[Eq.comm,ZI];rintro rfl;simp at hne
    ·have g:a[k]=b[k]:=by simpa using x
     rw[QD d om];refine⟨om,om,?_⟩;rw[Zu,Zz d,Zz om,o,g]
   ·have d:¬k<a.length:=by simpa using u
    apply Ok.mk;show true=_;rw[Zw om,Zw om] at o;simp[o]
  obtain⟨r,E,rfl⟩:=this;exact E
 ·rw[Zc so];have:a≠b:=λh=>hl (by rw[h]);simp[this]
def Y8 (l:Lz) (hl:l.length<=1000000):EV l=some l:=by unfold EV;rw[CK so];rfl
def G0 (s:List α) (p:α->Bool):Int:=match s.findIdx? p with | some k=>(k:Int) | none=>-1
def WG (s:List α) (f:α->Option Bool) (p:α->Bool) (hf:∀x∈s,f x=some (p x)) (hl:s.length<1000000000):
  (Qr (λ(b:Int)=>((if decide (b<(s.length:Int)) then (idx s b).bind λt14=>(f t14).bind λt16=>if t16 then some (.inr (.inr b)) else some (.inl (i64.wrap (b+(1:Int)))) else some (.inr (.inl ()))):Option (Int⊕(Unit⊕Int)))) (0:Int)).bind (λ(o:Unit⊕Int)=>(match o with | .inl _=>(some (-1:Int)) | .inr g=>some g))=some (G0 s p):=by
 have d:=P8 (body:=(λ(b:Int)=>((if decide (b<(s.length:Int)) then (idx s b).bind λt14=>(f t14).bind λt16=>if t16 then some (.inr (.inr b)) else some (.inl (i64.wrap (b+(1:Int)))) else some (.inr (.inl ()))):Option (Int⊕(Unit⊕Int))))) s.length (λk=>match s[k]? with | some x=>p x | none=>false) (.inl ()) (λk=>.inr (k:Int)) ?_ ?_ ?_
 ·rcases d with⟨k,a,hp,e,h⟩ | ⟨l,h⟩
  ·rw[h];simp only[Za];simp only[Zd a] at hp;have:s.findIdx? p=some k:=by
    rw[ZZ];refine⟨a,hp,λj m=>?_⟩;have:=e j m;simp only[Zd (Nat.lt_trans m a)] at this;simp[this]
   unfold G0;rw[this]
  ·rw[h];simp only[Za];have:s.findIdx? p=none:=by
    rw[findIdx?_eq_none_iff];intro x hx;obtain⟨k,a,rfl⟩:=Yv hx;have:=l k a;simpa only[Zd a] using this
   unfold G0;rw[this]
 ·intro k a hp;simp only[Zd a] at hp;rw[Zc (sa a),QY a];simp only[Za];rw[hf _ (Zr a),hp];simp only[Za];rw[Zb sm,QD a om]
 ·intro k a hp;simp only[Zd a] at hp;rw[Zc (sa a),QY a];simp only[Za];rw[hf _ (Zr a),hp];rfl
 ·rw[Zb sm]
def WH (s:List α) (p:α->Bool):decide (G0 s p>=0)=s.any p:=by
 unfold G0
 cases h:s.findIdx? p with
 | none=>
  rw[findIdx?_eq_none_iff] at h;have:s.any p=false:=by rw[any_eq_false];intro x hx;simp[h x hx]
  rw[this];rfl
 | some k=>rw[ZZ] at h;have⟨a,hp,_⟩:=h;have:s.any p=true:=Yp.2 ⟨_,Zr a,hp⟩;rw[this];simp
def IP (s:Lz) (f:Int->Option Bool) (p:Int->Bool) (hf:∀x∈s,f x=some (p x)) (hl:s.length<1000000000):EE s f=some (s.any p):=by unfold EE;rw[show Hy s f=some (G0 s p) from WG s f p hf hl];simp only[Za,WH]
def SY (s:List Lz) (f:Lz->Option Bool) (p:Lz->Bool) (hf:∀x∈s,f x=some (p x)) (hl:s.length<1000000000):HT s f=some (s.any p):=by unfold HT;rw[show Pe s f=some (G0 s p) from WG s f p hf hl];simp only[Za,WH]
def WI (b:Int->Int->Int) (x:Int) (xs:Lz) (hl:xs.length<1000000000):
  Qr (λ(a:Int×Int)=>((if decide (a.1<((x::xs).length:Int)) then (idx (x::xs) a.1).bind λt21=>some (.inl (i64.wrap (a.1+(1:Int)),b a.2 t21)) else some (.inr a.2)):Option ((Int×Int)⊕Int))) ((1:Int),x)=some (xs.foldl b x):=by
 refine IY xs.length (λk=>(((k+1:Nat):Int),(xs.take k).foldl b x)) _ ?_ ?_
 ·intro k d;have e:k+1<(x::xs).length:=by simpa using d
  simp only;rw[Zc (sa d),QY e];simp only[Za,getElem_cons_succ];rw[QD (n:=xs.length+1) om om,Zz d,foldl_append];rfl
 ·simp only;rw[Zb sm,take_length]
def max_eq (x:Int) (xs:Lz) (hl:xs.length<1000000000):IR (x::xs)=some (xs.foldl imax x):=by unfold IR;rw[Zb so,show idx (x::xs) (0:Int)=some x from rfl];simp only[Za];rw[WI imax x xs hl];rfl
def min_eq (x:Int) (xs:Lz) (hl:xs.length<1000000000):IS (x::xs)=some (xs.foldl imin x):=by unfold IS;rw[Zb so,show idx (x::xs) (0:Int)=some x from rfl];simp only[Za];rw[WI imin x xs hl];rfl
def best (a:Int->Int->Int) (d:Int) (l:Lz):Bool×Int:=l.foldl (λs y=>(true,if s.1 then a s.2 y else y)) (false,d)
def KY (a:Int->Int->Int) (d x:Int) (l:Lz):best a d (x::l)=(true,l.foldl a x):=by
 unfold best;simp only[foldl_cons,Yo,if_false]
 induction l generalizing x with
 | nil=>rfl
 | cons y l b=>simp only[foldl_cons,if_true];exact b (a x y)
def at2B (c:List Lz) (i k:Nat):Int:=(c.getD i []).getD k 0
structure Sq (m:Nat) (c:List Lz):Prop where
 len:c.length=m
 row:∀r∈c,r.length=m
def Sq.idx {m:Nat} {c:List Lz} (h:Sq m c) (hi:i<m):idx c (i:Int)=some (c.getD i [])/\(c.getD i []).length=m:=by
 have hl:i<c.length:=by rw[h.len];exact hi
 rw[QY hl,Zg,Zd hl];exact⟨rfl,h.row _ (Zr hl)⟩
def Sq.idx2 {m:Nat} {c:List Lz} (h:Sq m c) {k:Nat} (hi:i<m) (a:k<m):Sim.idx (c.getD i []) (k:Int)=some (at2B c i k):=by
 have hl:k<(c.getD i []).length:=by rw[(h.idx hi).2];exact a
 rw[QY hl];unfold at2B;rw[Zg (l:=c.getD i []),Zd hl];rfl
def oE (l:Qm):Ok (Gh l) (λr=>r=0->l.Xe.length<=12/\l.Xg.length<=32/\∀m∈l.Xg,(0<=m.a0/\m.a0<l.Xe.length)/\(0<=m.a1/\m.a1<l.Xe.length)):=by unfold Gh;refine Ok.ite (λ_=>Ok.mk λh=>absurd h dc) λh=>?_;simp only[Bool.or_eq_false_iff,ZI] at h;refine Ok.opt (P:=λb=>b=l.Xg.any λm=>decide (imin m.a0 m.a1<0)||decide (imax m.a0 m.a1>=l.Xe.length)) (λ_=>Ok.eq (Rd om λm _=>rfl) rfl) λb hb=>?_;refine Ok.ite (λ_=>Ok.mk λh=>absurd h dc) λa=>Ok.mk λ_=>⟨om,om,λm hm=>?_⟩;rw[Bool.or_eq_false_iff] at a;have e:=hb (by rw[a.1];rfl);rw[a.2] at e;have:=any_eq_false.1 e.symm m hm;simp only[ZG,Zk,not_or] at this;unfold imin imax at this;refine⟨?_,?_⟩<;>(split at this<;>omega)
def oF {l:Qm} (h:l.Xg.length<=32) (s:Int):Ok (Hx l s) (λ_=>True):=by unfold Hx;refine Ok.bind (P:=λ_=>True) (Ok.cnt l.Xg.length (λi s=>s.length<=i) sm (λi s hi b=>?_) λs _=>by rw[AK];exact Ok.mk trivial) λr _=>Ok.mk trivial;rw[AL hi,QY hi];dsimp only[ob];refine Ok.bind (P:=λr:Lz=>r.length<=i+1) (Ok.ite (λ_=>Ok.rm so (Ok.mk so)) λ_=>Ok.mk om) λr a=>Ok.mk ⟨QD hi om,a⟩
def oG {m o:Int} {now g:Q6} {e:List Bool} (h:e.length<=12):Ok (Ge m now e o g) (λr=>r.1=true/\r.2.1.length=e.length/\r.2.2=g):=by
  unfold Ge;refine Ok.bind (P:=λr:List Bool=>r.length=e.length) (Ok.cnt e.length (λ_ s=>s.length=e.length) rfl (λi s hi l=>?_) λs l=>by rw[AK];exact Ok.mk l) λr t=>Ok.mk ⟨rfl,t,rfl⟩;rw[AL hi];dsimp only;refine Ok.idx om om λa _ _=>?_;refine Ok.opt (P:=λ_=>True) (λ_=>?_) λb _=>Ok.opt (P:=λ_=>True) (λ_=>?_) λd _=>?_
  · exact Ok.eq (QY (xs:=now.L) (show i<12 by omega)) trivial
  · exact Ok.eq (QY (xs:=g.L) (show i<12 by omega)) trivial
  · exact Ok.setAt om om (Ok.mk ⟨QD hi om,by rw[ZK];exact l⟩)
def oH {l:Qm} {d0:List Bool} {d1:Int} {d2:Q6} (x:hi<=1000) (y:l.Xe.length<=12) (hm:l.Xg.length<=32) (o:∀m∈l.Xg,(0<=m.a0/\m.a0<l.Xe.length)/\(0<=m.a1/\m.a1<l.Xe.length)) (h0:d0.length<=12):
    Ok (H0 l hi d0 d1 d2) (λr=>r.1.length=d0.length):=by
  unfold H0;refine Ok.bind (P:=λr:List Bool×Q6=>r.1.length=d0.length) (Ok.loop (λk s=>0<=s.1/\s.1+k=1002/\s.2.1.length=d0.length) 1002 ⟨Zx _,by dsimp only;omega,rfl⟩ λk s u=>?_) λr g=>Ok.mk g;have⟨a1,a2,a3⟩:=u;refine Ok.opt (P:=λt=>t.1=true/\t.2.1.length=d0.length) (λh=>?_) λt ht=>?_
  · exact (oG (by rw[a3];exact h0)).Xo λr g=>⟨g.1,by rw[g.2.1];exact a3⟩
  · have d:(bif ((decide (s.1<=hi))==true) then t.2.1 else s.2.1).length=d0.length:=by
      cases h:((decide (s.1<=hi))==true) with
      | true=>exact (ht h).2
      | false=>exact a3
    refine Ok.ite (λh=>?_) λh=>Ok.mk d;rw[Zh,Zk] at h;refine Ok.bind (P:=λ_=>True) (Ok.cnt l.Xg.length (λ_ _=>True) trivial (λi z a _=>?_) λs _=>by rw[AK];exact Ok.mk trivial) λr _=>Ok.mk ⟨k - 1,om,?_,?_,d⟩
    · rw[AL a,QY a];dsimp only[ob];have e:=o _ (Zr a);refine Ok.idx e.1.1 (by show l.Xg[i].a0<((12:Nat):Int);omega) λb _ _=>?_;refine Ok.bind (P:=λ_=>True) (Ok.ite (λ_=>?_) λ_=>Ok.mk trivial) λr _=>Ok.mk ⟨QD a om,trivial⟩;exact Ok.idx e.2.1 (by show l.Xg[i].a1<((12:Nat):Int);omega) λb _ _=>Ok.mk trivial
    · dsimp only;rw[w64 (n:=s.1+1) om om];omega
    · dsimp only;rw[w64 (n:=s.1+1) om om];omega
def jJ (l:Qm) (lo hi:Int):Ok (Fv l lo hi) (λr=>r.length<=12):=by
  unfold Fv;refine (oE l).bind λr b=>Ok.ite (λ_=>Ok.mk sm) λh=>?_;simp only[Bool.or_eq_false_iff,ZI] at h;have⟨v1,v2,v3⟩:=b (sa h.1.1.1);refine Ok.bind (P:=λ_=>True) (Ok.cnt l.Xe.length (λ_ _=>True) trivial (λi s a _=>?_) λs _=>by rw[AK];exact Ok.mk trivial) λr _=>?_
  · rw[AL a];refine (oF v2 _).bind λt _=>?_;rw[show idx s.L (i:Int)=some (s.L[i]'(show i<12 by omega)) from QY (show i<12 by omega)];exact Ok.mk ⟨QD a om,trivial⟩
  · rw[Dp _ _ om];dsimp only[ob];refine (oH om v1 v2 v3 (sa v1)).bind λr b=>Ok.mk ?_;rw[b];simpa using v1
def oI (l:Lz) {k:Nat} (h:k<l.length):(l.take (k+1)).sum=(l.take k).sum+l[k]:=by rw[Zz h,sum_append];simp
def DT (a:List Str) (b:Lz):Bool:=(b.all λg=>inW g 0 1048576)&&(((inW (a.length:Int) 1 12&&((a.length:Int)==(b.length:Int)))&&decide (b.sum>0))&&a.all QX)
def Tj {d:List Str} {a:Lz} (C:d.length<=1000000) (L:a.length<=1000000):Hs d a=some (DT d a):=by
  have key:Ok (Hs d a) (λr=>r=DT d a):=by
    unfold Hs;refine Ok.bind (P:=λe:Int⊕Bool=>match e with | .inl s=>(a.all λg=>inW g 0 1048576)=true/\s=a.sum | .inr p=>p=false/\(a.all λg=>inW g 0 1048576)=false)
      (Ok.loop (λm s=>0<=s.1/\s.1+m=a.length/\((a.take s.1.toNat).all λg=>inW g 0 1048576)=true/\s.2=(a.take s.1.toNat).sum/\0<=s.2/\s.2<=s.1 * 1048576) a.length ⟨Zx _,by dsimp only;omega,sm,sm,sm,sm⟩ λm s D=>?_) λe y=>?_
    · have⟨i,t⟩:=s;have⟨z,E,h,l,F,H⟩:=D;dsimp only at z E h l F H;obtain⟨k,rfl⟩:=ZB z;simp only[Zu] at h l;refine Ok.ite (λu=>?_) (λu=>?_)
      · have b:k<a.length:=by simpa using u
        dsimp only;rw[QY b];simp only[Za];show Ok ((some (inW a[k] 0 1048576)).bind _) _;simp only[Za];refine Ok.ite (λI=>Ok.mk ⟨rfl,?_⟩) (λhy=>Ok.mk ⟨m - 1,om,?_⟩)
        · rw[all_eq_false];exact⟨_,Zr b,by simpa using I⟩
        · have o:inW a[k] 0 1048576=true:=by simpa using hy
          have hb:=Aq o;dsimp only;rw[QD b om,w64 (n:=t+a[k]) om om];refine⟨om,om,?_,?_,om,om⟩
          · rw[Zu,Zz b,all_append,h];simp[o]
          · rw[Zu,oI a b,l]
      · have b:¬k<a.length:=by simpa using u
        rw[Zw om] at h l;exact Ok.mk ⟨h,l⟩
    · cases e with
      | inr p=>obtain⟨rfl,hp⟩:=y;apply Ok.mk;unfold DT;rw[hp];rfl
      | inl s=>
        obtain⟨hp,rfl⟩:=y;dsimp only;show Ok ((some (inW (d.length:Int) 1 12)).bind _) _;simp only[Za];rw[PO (p:=QX) C (λx _=>Fk x)];unfold DT;rw[hp,Bool.true_and]
        cases (inW (d.length:Int) 1 12&&((d.length:Int)==(a.length:Int)))&&decide (a.sum>0) with
        | false=>exact Ok.mk rfl
        | true=>exact Ok.mk rfl
  obtain⟨r,K,rfl⟩:=key;exact K
def A8 (f:Qe):Qe:=
  if f.Xi=0 then ⟨f.Xj,[],[],f.Xi,f.Lo,0,[],[]⟩
  else if f.Xi=1\/f.Xi=4\/f.Xi=5 then ⟨f.Xj,f.Of,[],f.Xi,f.Lo,f.Hi,[],[]⟩
  else if f.Xi=2 then ⟨f.Xj,[],[],f.Xi,f.Lo,f.Hi,[],[]⟩
  else if f.Xi=3 then ⟨f.Xj,[],[],f.Xi,0,0,f.Words,f.Xf⟩
  else if f.Xi=6 then ⟨f.Xj,f.Of,[],f.Xi,0,0,[],[]⟩
  else if f.Xi=7 then ⟨f.Xj,f.Of,f.Up,f.Xi,f.Lo,f.Hi,[],[]⟩
  else if f.Xi=8 then ⟨f.Xj,f.Of,f.Up,f.Xi,0,0,[],[]⟩
  else ⟨f.Xj,[],[],f.Xi,0,0,[],[]⟩
def oJ (f:Qe):Mz f=some (A8 f):=by
  have⟨n,o,u,k,lo,hi,w,g⟩:=f;unfold Mz A8;by_cases h0:k=0
  · subst h0;rfl
  by_cases a:k=1
  · subst a;rfl
  by_cases b:k=4
  · subst b;rfl
  by_cases d:k=5
  · subst d;rfl
  by_cases e:k=2
  · subst e;rfl
  by_cases h:k=3
  · subst h;rfl
  by_cases l:k=6
  · subst l;rfl
  by_cases m:k=7
  · subst m;rfl
  by_cases r:k=8
  · subst r;rfl
  simp[h0,a,e,h,b,d,l,m,r]
def BG (a b:Qe):Bool:=(((((((a.Xj==b.Xj)&&(a.Of==b.Of))&&(a.Up==b.Up))&&(a.Xi==b.Xi))&&(a.Lo==b.Lo))&&(a.Hi==b.Hi))&&decide (a.Words=b.Words))&&decide (a.Xf=b.Xf)
def oK {a b:Qe} (d:a.Words.length<=1000000) (e:a.Xf.length<=1000000):MR a b=some (BG a b):=by
  unfold MR BG;rw[oD d,eqInt e]
  cases ((((((a.Xj==b.Xj)&&(a.Of==b.Of))&&(a.Up==b.Up))&&(a.Xi==b.Xi))&&(a.Lo==b.Lo))&&(a.Hi==b.Hi)) with
  | false=>rfl
  | true=>simp only[Sim.opt,Bool.true_and,beq_self_eq_true,if_true,Za];cases decide (a.Words=b.Words)<;>rfl
def Av (f:Qe):Bool:=
  if f.Xi=0 then inW f.Lo (-1048576) 1048576
  else if f.Xi=1 then QX f.Of&&Bg f.Lo f.Hi 0 65536
  else if f.Xi=2 then Bg f.Lo f.Hi (-1048576) 1048576
  else if f.Xi=3 then DT f.Words f.Xf
  else if f.Xi=4 then ((f.Of==[])||QX f.Of)&&Bg f.Lo f.Hi (-1048576) 1048576
  else if f.Xi=5 then QX f.Of&&Bg f.Lo f.Hi 0 32
  else if f.Xi=6 then QX f.Of
  else if f.Xi=7 then (QX f.Of&&QX f.Up)&&Bg f.Lo f.Hi 0 1048576
  else if f.Xi=8 then QX f.Of&&QX f.Up
  else false
def AH (f:Qe):Bool:=(QX f.Xj&&BG f (A8 f))&&Av f
def oL {f:Qe} (r:f.Words.length<=1000000) (s:f.Xf.length<=1000000):M7 f=some (AH f):=by
  unfold M7 AH;rw[Fk,oJ];simp only[Za]
  cases QX f.Xj with
  | false=>rfl
  | true=>
    simp only[Sim.opt,Bool.not_true,beq_self_eq_true,if_true,Za];rw[oK r s];simp only[Za]
    cases BG f (A8 f) with
    | false=>rfl
    | true=>
      simp only[Fk,Tj r s,Bool.true_and,Bool.not_true,Bool.or_self];rw[Zb dc];unfold Av;by_cases a:f.Xi=0
      · rw[Zc (by simp[a]),Zc a];rfl
      rw[Zb (sa a),Zb a];by_cases b:f.Xi=1
      · rw[Zc (by simp[b]),Zc b];cases QX f.Of<;>rfl
      rw[Zb (sa b),Zb b];by_cases d:f.Xi=2
      · rw[Zc (by simp[d]),Zc d];rfl
      rw[Zb (sa d),Zb d];by_cases e:f.Xi=3
      · rw[Zc (by simp[e]),Zc e];rfl
      rw[Zb (sa e),Zb e];by_cases g:f.Xi=4
      · rw[Zc (by simp[g]),Zc g];cases (f.Of==[])<;>cases QX f.Of<;>rfl
      rw[Zb (sa g),Zb g];by_cases h:f.Xi=5
      · rw[Zc (by simp[h]),Zc h];cases QX f.Of<;>rfl
      rw[Zb (sa h),Zb h];by_cases l:f.Xi=6
      · rw[Zc (by simp[l]),Zc l];rfl
      rw[Zb (sa l),Zb l];by_cases m:f.Xi=7
      · rw[Zc (by simp[m]),Zc m];cases QX f.Of<;>cases QX f.Up<;>rfl
      rw[Zb (sa m),Zb m];by_cases o:f.Xi=8
      · rw[Zc (by simp[o]),Zc o];cases QX f.Of<;>rfl
      rw[Zb (sa o),Zb o]
def BI (k:QA):Bool:=((QX k.Xj&&Bg k.Lo k.Hi 0 65536)&&decide ((k.Xb.length:Int)<=10))&&k.Xb.all AH
def PD (l:List Qe):Prop:=l.length<=1000000/\∀f∈l,f.Words.length<=1000000/\f.Xf.length<=1000000
def dN {k:QA} (h:PD k.Xb):M8 k=some (BI k):=by
  unfold M8 BI;rw[Fk,n9 (p:=AH) h.1 (λf hf=>oL (h.2 f hf).1 (h.2 f hf).2)];simp only[Za]
  cases QX k.Xj with
  | false=>rfl
  | true=>
    show (opt true (some (Bg k.Lo k.Hi 0 65536)) default).bind _=_;simp only[Sim.opt,Bool.true_and,if_true,Za]
    cases Bg k.Lo k.Hi 0 65536 with
    | false=>rfl
    | true=>
      cases a:decide ((k.Xb.length:Int)<=10) with
      | false=>rfl
      | true=>rfl
def Bf (n:Int) (m:AS):Bool:=inW m.a0 0 (n - 1)&&inW m.a1 0 (n - 1)
def BT (x:Qm):Bool:=(((QX x.Xj&&inW (x.Xe.length:Int) 1 12)&&x.Xe.all QX)&&decide ((x.Xg.length:Int)<=32))&&x.Xg.all (Bf (x.Xe.length:Int))
def dP {x:Qm} (a:x.Xe.length<=1000000) (b:x.Xg.length<=1000000):Mu x=some (BT x):=by
  have hm:∀m∈x.Xg,Mi m (x.Xe.length:Int)=some (Bf (x.Xe.length:Int) m):=λm _=>by unfold Mi Bf;rw[w64 om om];show (some (inW m.a0 0 ((x.Xe.length:Int) - 1))).bind _=_;simp only[Za];cases inW m.a0 0 ((x.Xe.length:Int) - 1)<;>rfl
  unfold Mu BT;rw[Fk,PO (p:=QX) a (λs _=>Fk s),oC (p:=Bf (x.Xe.length:Int)) b hm];simp only[Za]
  cases QX x.Xj with
  | false=>rfl
  | true=>
    show (opt true (some (inW (x.Xe.length:Int) 1 12)) default).bind _=_;simp only[Sim.opt,Bool.true_and,if_true,Za]
    cases inW (x.Xe.length:Int) 1 12 with
    | false=>rfl
    | true=>
      simp only[Bool.true_and,beq_self_eq_true,if_true,Za]
      cases x.Xe.all QX with
      | false=>rfl
      | true=>cases decide ((x.Xg.length:Int)<=32)<;>rfl
def BF (r:QL):Bool:=((((QX r.Xj&&QX r.Xi)&&((r.A==[])||QX r.A))&&((r.B==[])||QX r.B))&&(r.A++r.B !=[]))&&inW r.N (-1048576) 1048576
def CM {s:Str} (h:QX s=true):s.length<=12:=by unfold QX at h;simp only[Zh] at h;have:=(Aq h.1).2;omega
def dS (r:QL):Mv r=some (BF r):=by
  have len:∀s:Str,((s==[])||QX s)=true->s.length<=12:=λs h=>by
    rcases ZG _ _ |>.mp h with h | h
    · have:s=[]:=by simpa using h
      subst this;simp
    · exact CM h
  unfold Mv BF;simp only[Fk];simp only[Za]
  cases QX r.Xj with
  | false=>rfl
  | true=>
    simp only[Sim.opt,Bool.true_and,beq_self_eq_true,if_true,Za]
    cases QX r.Xi with
    | false=>rfl
    | true=>
      simp only[Bool.true_and,beq_self_eq_true,Bool.true_and];have d:=len r.A;have g:=len r.B
      cases ha:(r.A==[])<;>cases a:QX r.A<;>cases hb:(r.B==[])<;>cases b:QX r.B<;>first
        | rfl
        | (rw[ha,a] at d;rw[hb,b] at g
           have e:cat (r.A.length+r.B.length)=some ():=Zc (by have:=d rfl;have:=g rfl;omega);simp only[e,Bool.false_or,Bool.or_false,Bool.true_or,Bool.or_true,Bool.and_true,Bool.true_and,Bool.and_self,beq_self_eq_true,if_true,Za];cases (r.A++r.B !=[])<;>rfl)
def set_L (S:Q6) (v:Bool):∀{i:Nat},i<12->(S.setI (i:Int) v).L=S.L.set i v
  | 0,_=>rfl
  | 1,_=>rfl
  | 2,_=>rfl
  | 3,_=>rfl
  | 4,_=>rfl
  | 5,_=>rfl
  | 6,_=>rfl
  | 7,_=>rfl
  | 8,_=>rfl
  | 9,_=>rfl
  | 10,_=>rfl
  | 11,_=>rfl
  | n+12,h=>absurd h om
def ofL (S:Q6) (s:Nat):Bool:=S.L.getD s false
def Jy (S:Q6) (hi:i<12):idx S.L (i:Int)=some (ofL S i):=Ai hi
def WJ (S:Q6) (v:Bool) (hi:i<12) (s:Nat):ofL (S.setI (i:Int) v) s=if s=i then v else ofL S s:=by
  unfold ofL;rw[set_L S v hi,C1];by_cases h:s=i
  · rw[Zc ⟨h,hi⟩,Zc h]
  · rw[Zb (λe=>h e.1),Zb h]
def Som (o:List Bool):Prop:=∃s,s<o.length/\o.getD s false=true
def oM {l:Qm} (h:l.Xg.length<=32) (s:Int):Ok (Hx l s) (λr=>r=[]\/∃m∈l.Xg,m.a0=s):=by unfold Hx;refine Ok.bind (P:=λr:Lz=>r=[]\/∃m∈l.Xg,m.a0=s) (Ok.cnt l.Xg.length (λi r=>r.length<=i/\(r=[]\/∃m∈l.Xg,m.a0=s)) ⟨sm,.inl rfl⟩ (λi r hi a=>?_) λr a=>by rw[AK];exact Ok.mk a.2) λr a=>Ok.mk a;rw[AL hi,QY hi];dsimp only[ob];refine Ok.bind (P:=λr:Lz=>r.length<=i+1/\(r=[]\/∃m∈l.Xg,m.a0=s)) (Ok.ite (λb=>Ok.rm so (Ok.mk ⟨so,.inr ⟨_,Zr hi,by simpa using b⟩⟩)) λ_=>Ok.mk ⟨om,a.2⟩) λr a=>Ok.mk ⟨QD hi om,a⟩
def oN {m:Int} {now g:Q6} {o:List Bool} (h:o.length<=12):Ok (Ge m now o lo g) (λr=>r.1=true/\r.2.1.length=o.length/\r.2.2=g/\∀s,s<o.length->(o.getD s false=true->r.2.1.getD s false=true)/\(ofL now s=true->(m>=lo\/ofL g s=true)->r.2.1.getD s false=true)):=by
  unfold Ge;refine Ok.bind (P:=λr:List Bool=>r.length=o.length/\∀s,s<o.length->(o.getD s false=true->r.getD s false=true)/\(ofL now s=true->(m>=lo\/ofL g s=true)->r.getD s false=true))
    (Ok.cnt o.length (λi r=>r.length=o.length/\(∀s,s<i->(o.getD s false=true->r.getD s false=true)/\(ofL now s=true->(m>=lo\/ofL g s=true)->r.getD s false=true))/\∀s,i<=s->r.getD s false=o.getD s false) ⟨rfl,λs x=>om,λs _=>rfl⟩ (λi r hi l=>?_) λr l=>by rw[AK];exact Ok.mk ⟨l.1,l.2.1⟩) λr l=>Ok.mk ⟨rfl,l.1,rfl,l.2⟩
  have⟨r1,C,y⟩:=l;rw[AL hi];dsimp only;rw[Ai (d:=false) (show i<r.length by omega)];dsimp only[ob];have z:=y i (Zq _);generalize r.getD i false=a at z ⊢;refine Ok.opt (P:=λb=>b=ofL now i) (λ_=>Ok.eq (Jy now om) rfl) λb hb=>?_;refine Ok.opt (P:=λd=>d=ofL g i) (λ_=>Ok.eq (Jy g om) rfl) λd D=>?_;rw[Cx om];refine Ok.mk ⟨QD hi om,by rw[ZK];exact r1,λs x=>?_,λs x=>?_⟩
  · rw[C1];by_cases e:s=i
    · subst e;rw[Zc ⟨rfl,om⟩,<-z];refine⟨λha=>by rw[ha];rfl,λE hc=>?_⟩
      cases a with
      | true=>rfl
      | false=>
        have t:=hb rfl;rw[E] at t;subst t;by_cases hm:m>=lo
        · simp[hm]
        · have u:=D (by simp[hm]);rw[hc.resolve_left hm] at u;simp[u]
    · rw[Zb (λq=>e q.1)];exact C s om
  · rw[C1,Zb (λq=>om)];exact y s om
def oO {l:Qm} {o:List Bool} {g:Q6} (h0:0<=lo) (a0:lo<=hi) (E:hi<=1000) (hn:1<=l.Xe.length/\l.Xe.length<=12) (hm:l.Xg.length<=32) (Y:∀m∈l.Xg,(0<=m.a0/\m.a0<l.Xe.length)/\(0<=m.a1/\m.a1<l.Xe.length)) (ho:o.length=l.Xe.length) (he:∀s:Nat,s<l.Xe.length->ofL g s=false->∃m∈l.Xg,m.a0=s):Ok (H0 l hi o lo g) (λr=>r.1.length=o.length/\Som r.1):=by
  unfold H0;refine Ok.bind (P:=λr:List Bool×Q6=>r.1.length=o.length/\Som r.1) (Ok.loop (λk s=>0<=s.1/\s.1+k=1002/\s.1<=hi+1/\s.2.1.length=o.length/\s.2.2.1=g/\(Som s.2.1\/s.1<=hi/\∃q,q<o.length/\ofL s.2.2.2 q=true)) 1002
    ⟨Zx _,by dsimp only;omega,by dsimp only;omega,rfl,rfl,.inr ⟨by dsimp only;omega,0,om,rfl⟩⟩ λk s hk=>?_) λr hr=>Ok.mk hr
  have⟨i,out,O,now⟩:=s;obtain⟨a1,a2,a3,a4,rfl,a6⟩:=hk;dsimp only at a1 a2 a3 a4 a6 ⊢;by_cases z:i<=hi
  · have T:decide (i<=hi)=true:=by simpa using z
    rw[T];show Ok ((Ge i now out lo O).bind _) _;refine (oN om).bind λt ht=>?_;have⟨t1,t2,t3,t4⟩:=ht;rw[t1,t3];have I:Som out->Som t.2.1:=λ⟨q,Z,U⟩=>⟨q,om,(t4 q Z).1 U⟩;refine Ok.bind (P:=λy:Q6=>∀F∈l.Xg,∀p q:Nat,F.a0=p->F.a1=q->ofL now p=true->ofL y q=true) (Ok.cnt l.Xg.length (λj y=>∀b (u:b<l.Xg.length),b<j->∀p q:Nat,l.Xg[b].a0=p->l.Xg[b].a1=q->ofL now p=true->ofL y q=true) (λb _ u=>om) (λj y u d=>?_) λy d=>?_) λy d=>?_
    · rw[AL u,QY u];dsimp only[ob];have a:=Y _ (Zr u);have⟨p,V⟩:=ZB a.1.1;have⟨q,eq⟩:=ZB a.2.1;rw[V,eq,Jy now (show p<12 by omega)];dsimp only[ob];refine Ok.bind (P:=λK:Q6=>∀b (x:b<l.Xg.length),b<j+1->∀p q:Nat,l.Xg[b].a0=p->l.Xg[b].a1=q->ofL now p=true->ofL K q=true) (Ok.ite (λht=>?_) λhf=>Ok.mk λb x C R S E L H=>?_) λK M=>Ok.mk ⟨QD u om,M⟩
      · rw[Jy y (show q<12 by omega)];refine Ok.mk λb x C R S E L H=>?_;rw[WJ y true (show q<12 by omega)];by_cases e:S=q
        · rw[Zc e]
        · rw[Zb e];rcases Nat.lt_succ_iff_lt_or_eq.1 C with D | D
          · exact d b x D R S E L H
          · subst D;omega
      · rcases Nat.lt_succ_iff_lt_or_eq.1 C with D | D
        · exact d b x D R S E L H
        · subst D;have:R=p:=by omega
          subst this;rw[H] at hf;cases hf
    · rw[AK];refine Ok.mk λF a p q E L H=>?_;obtain⟨j,u,rfl⟩:=mem_iff_getElem.1 a;exact d j u u p q E L H
    · refine Ok.mk ⟨k - 1,om,?_⟩;dsimp only;rw[w64 (n:=i+1) om om];refine⟨om,om,om,by show t.2.1.length=_;omega,rfl,?_⟩;show Som t.2.1\/_;rcases a6 with h | ⟨_,q,Z,N⟩
      · exact .inl (I h)
      · by_cases hc:i>=lo\/ofL O q=true
        · exact .inl ⟨q,om,(t4 q om).2 N hc⟩
        · right;have a5:i<lo:=by
            rcases Int.lt_or_le i lo with h | h
            · exact h
            · exact (hc (.inl h)).elim
          have X:ofL O q=false:=by
            cases h:ofL O q with
            | false=>rfl
            | true=>exact (hc (.inr h)).elim
          have⟨F,a,e0⟩:=he q om X;have hb:=Y F a;have⟨p,V⟩:=ZB hb.2.1;exact⟨om,p,om,d F a q p e0 V N⟩
  · have T:decide (i<=hi)=false:=by simpa using z
    rw[T];have so:Som out:=a6.resolve_right λh=>z h.1;exact Ok.mk ⟨a4,so⟩
def oP {l:Qm} (h:BT l=true):Gh l=some 0/\(1<=l.Xe.length/\l.Xe.length<=12)/\l.Xg.length<=32/\∀m∈l.Xg,(0<=m.a0/\m.a0<l.Xe.length)/\(0<=m.a1/\m.a1<l.Xe.length):=by
  unfold BT inW Bf at h;simp only[Zh,ZD,Zk] at h;have⟨⟨⟨⟨_,s⟩,_⟩,t⟩,g⟩:=h;have hm:∀m∈l.Xg,(0<=m.a0/\m.a0<l.Xe.length)/\(0<=m.a1/\m.a1<l.Xe.length):=λm hm=>by have:=g m hm;simp only[inW,Zh,Zk] at this;omega
  refine⟨?_,om,om,hm⟩;have key:Ok (Gh l) (λr=>r=0):=by
    unfold Gh;refine Ok.ite (λo=>?_) λ_=>?_
    · simp only[ZG,Zk] at o;omega
    · refine Ok.opt (P:=λb=>b=false) (λ_=>Ok.eq (Rd (p:=λm=>decide (imin m.a0 m.a1<0)||decide (imax m.a0 m.a1>=l.Xe.length)) om λm _=>rfl) ?_) λb hb=>?_
      · rw[any_eq_false];intro m a;have:=hm m a;unfold imin imax;simp only[ZG,Zk,not_or];constructor<;>(split<;>omega)
      · have e:((l.Xe.length:Int)==0)=false:=by
          rw[beq_eq_false_iff_ne];omega
        have d:=hb (by rw[e];rfl);rw[e,d];exact Ok.mk rfl
  obtain⟨r,e,rfl⟩:=key;exact e
def jA {l:Qm} (h:BT l=true) (h0:0<=lo) (g:lo<=hi) (u:hi<=1000):Ok (Fv l lo hi) (λr=>r.length<=12/\Som r):=by
  have⟨v0,v1,v2,v3⟩:=oP h;unfold Fv;rw[v0];dsimp only[ob];rw[Zb (by simp only[ZG,Zk];simp;omega)];refine Ok.bind (P:=λb:Q6=>∀s:Nat,s<l.Xe.length->ofL b s=false->∃m∈l.Xg,m.a0=s) (Ok.cnt l.Xe.length (λi b=>∀s:Nat,s<i->ofL b s=false->∃m∈l.Xg,m.a0=s) (λs x=>om) (λi b d a=>?_) λb a=>by rw[AK];exact Ok.mk a) λb a=>?_
  · rw[AL d];refine (oM v2 _).bind λt ht=>?_;rw[Jy b (show i<12 by omega)];refine Ok.mk ⟨QD d om,λs x hf=>?_⟩;dsimp only at hf;rw[WJ b _ (show i<12 by omega)] at hf;by_cases e:s=i
    · subst e;rw[Zc rfl] at hf;refine ht.resolve_left λy=>?_;rw[y] at hf;cases hf
    · rw[Zb e] at hf;exact a s om hf
  · rw[Dp _ _ om];dsimp only[ob];refine (oO h0 g u v1 v2 v3 sm a).bind λr o=>Ok.mk ⟨?_,o.2⟩;rw[o.1];simpa using v1.2
def WK:∀(n:Nat) (g:Nat->Nat),(∀i,i<=n->g i<n)->∃a b,a<b/\b<=n/\g a=g b
  | 0,g,h=>absurd (h 0 (Zq _)) om
  | n+1,g,h=>by
    by_cases o:∃a,a<=n/\g a=g (n+1)
    · have⟨a,l,d⟩:=o;exact⟨a,n+1,om,Zq _,d⟩
    · have hne:∀a,a<=n->g a≠g (n+1):=λa ha e=>o ⟨a,ha,e⟩;have⟨a,b,l,d,m⟩:=WK n (λi=>if g i=n then g (n+1) else g i) (λi hi=>by
        have l:=h i om;have d:=h (n+1) (Zq _);have m:=hne i hi;split<;>omega)
      refine⟨a,b,l,om,?_⟩;have ha:=hne a om;have hb:=hne b d;split at m<;>split at m<;>omega
def lin (a:Qi->Int):List Qi->Lz->Int
  | e::l,y::f=>a e * y+lin a l f
  | _,_=>0
def WL (d:Qi->Int):∀(l:List Qi) (f:Lz) (k:Nat) (y:Int) (e:Qi) (z:Int),l[k]?=some e->f[k]?=some z->lin d l (f.set k y)=lin d l f+d e * (y - z)
  | [],f,k,y,e,z,h,_=>by simp at h
  | a::l,[],k,y,e,z,_,h=>by simp at h
  | a::l,b::f,0,y,e,z,h1,h2=>by simp at h1 h2;subst h1;subst h2;simp only[set_cons_zero,lin];rw[Int.mul_sub];omega
  | a::l,b::f,k+1,y,e,z,h1,h2=>by simp only[getElem?_cons_succ] at h1 h2;simp only[set_cons_succ,lin];rw[WL d l f k y e z h1 h2];omega
def psum (g:Nat->Int):Nat->Int
  | 0=>0
  | n+1=>psum g n+g n
structure Hh (n:Int) (e:Qi):Prop where
  f0:0<=e.From
  f1:e.From<n
  t0:0<=e.To
  t1:e.To<n
  lo:0<=e.Lo
  le:e.Lo<=e.Hi
  hi:e.Hi<=1000
  c0:-1000<=e.Cost
  c1:e.Cost<=1000
  ne:e.From≠e.To
structure E6 (l:List Qi) (a:Qg):Prop where
  e0:0<=a.edge
  ex:∃e,l[a.edge.toNat]?=some e/\((a.forward=1/\a.from'=e.From/\a.to=e.To/\a.cost=e.Cost)\/(a.forward=-1/\a.from'=e.To/\a.to=e.From/\a.cost=-e.Cost))
def BK (l:List Qi) (f:Lz):Prop:=f.length=l.length/\∀(k:Nat) (e:Qi) (y:Int),l[k]?=some e->f[k]?=some y->e.Lo<=y/\y<=e.Hi
structure Bh (x:Qw):Prop where
  n0:0<=x.n
  n1:x.n<=64
  l1:x.l.length<=256
  edges:∀e∈x.l,Hh x.n e
  flow:BK x.l x.flow
  arcs:∀a∈x.arcs,E6 x.l a
  alen:x.arcs.length<=512
def room (x:Qw) (a:Qg):Int:=match x.l[a.edge.toNat]?,x.flow[a.edge.toNat]? with
  | some e,some y=>if a.forward>0 then e.Hi - y else y - e.Lo
  | _,_=>0
def Ou {x:Qw} (h:Bh x) {k:Nat} {e:Qi} (a:x.l[k]?=some e):∃y,x.flow[k]?=some y/\e.Lo<=y/\y<=e.Hi/\Hh x.n e/\k<x.l.length/\k<x.flow.length:=by
  have b:k<x.l.length:=(Zf.1 a).1;have hf:k<x.flow.length:=by rw[h.flow.1];exact b
  have hy:=Zd hf;have⟨d,g⟩:=h.flow.2 k e _ a hy;exact⟨_,hy,d,g,h.edges e (Zo a),b,hf⟩
def LW {x:Qw} (h:Bh x) {a:Qg} (ha:E6 x.l a):Fs x a=some (room x a)/\0<=room x a/\room x a<=1000:=by
  have⟨e,g,m⟩:=ha.ex;have⟨y,hy,o,r,l,s,hf⟩:=Ou h g;have h0:=l.lo;have t:=l.hi;have d:=ha.e0;unfold Fs room;rw[g,hy];dsimp only;rw[Ca _ d,Ca _ d,g,hy];simp only[Za];rcases m with⟨b,_⟩ | ⟨b,_⟩
  · rw[b,Zc dc,Zc dc,w64 om om];exact⟨rfl,om,om⟩
  · rw[b,Zb dc,Zb dc,w64 om om];exact⟨rfl,om,om⟩
def Ok.room {x:Qw} (h:Bh x) {a:Qg} (ha:E6 x.l a) {f:Int->Option β} (k:0<=Proofs.YtohojolgolinoaaGreatDoor.room x a->Proofs.YtohojolgolinoaaGreatDoor.room x a<=1000->Ok (f (Proofs.YtohojolgolinoaaGreatDoor.room x a)) Q):Ok ((Fs x a).bind f) Q:=by have⟨b,d,e⟩:=LW h ha;rw[b];exact k d e
structure Fd (x:Qw) (m:Mp Qg) (w:Nat->Int) (c:Nat->Qg) (p:Nat):Prop where
  pos:1<=p
  look:∀i,i<p->AY m (w i)=some (c i)
  arc:∀i,i<p->E6 x.l (c i)
  to:∀i,i<p->(c i).to=w i
  from':∀i,i<p->(c i).from'=w (i+1)
  room:∀i,i<p->1<=room x (c i)
  stop:∀i,0<i->i<p->w i≠w p
  edge:∀i j,i<j->j<p->(c i).edge≠(c j).edge
def TE (a b:Int):imin a b<=a:=by unfold imin;split<;>omega
def TF (a b:Int):imin a b<=b:=by unfold imin;split<;>omega
def TH {a b c:Int} (h:c<=a) (d:c<=b):c<=imin a b:=by unfold imin;split<;>omega
def oR {x:Qw} (hx:Bh x) {m:Mp Qg} {c:Nat->Qg} {p:Nat} (h:Fd x m w c p) (hm:1<=most):
    Ok (Mx most x (w 0) m (w p)) (λr=>r.2=x/\1<=r.1/\r.1<=most/\∀i,i<p->r.1<=room x (c i)):=by
  unfold Mx;refine Ok.bind (P:=λr=>(r.2.1=x.n/\r.2.2.1=x.l/\r.2.2.2.1=x.arcs/\r.2.2.2.2=x.flow)/\1<=r.1/\r.1<=most/\∀i,i<p->r.1<=room x (c i)) (Ok.loop (λk s=>∃i,i+k=p/\i<p/\s.1=w i/\1<=s.2.1/\s.2.1<=most/\(∀j,j<i->s.2.1<=room x (c j))/\s.2.2.1=x.n/\s.2.2.2.1=x.l/\s.2.2.2.2.1=x.arcs/\s.2.2.2.2.2=x.flow) p ⟨0,om,h.pos,rfl,hm,Zx _,λj t=>absurd t om,rfl,rfl,rfl,rfl⟩ λk s I=>?_) λr u=>Ok.mk ?_
  · have⟨i,L,a,d,g,K,C,D,E,F,b⟩:=I;have⟨v,o,n,l,M,fl⟩:=s;dsimp only at d g K C D E F b ⊢;subst d;subst D;subst E;subst F;subst b;rw[h.look i a,ZS];refine Ok.bind (P:=λr=>r.2=x/\r.1=imin o (room x (c i))) ?_ λr u=>?_
    · unfold Pc;refine Ok.room hx (h.arc i a) λr0 r1=>Ok.mk ⟨rfl,rfl⟩
    · have⟨y,z⟩:=u;rw[y,z,h.from' i a];have g1:=TE o (room x (c i));have g2:=TF o (room x (c i));have g3:=TH g (h.room i a);have H:∀j,j<i+1->imin o (room x (c i))<=room x (c j):=λj t=>by
        by_cases e:j=i
        · rw[e];exact g2
        · exact Int.le_trans g1 (C j om)
      by_cases hp:i+1=p
      · rw[hp,Zc sm];refine Ok.mk ⟨⟨rfl,rfl,rfl,rfl⟩,g3,by dsimp only;omega,λj t=>H j om⟩
      · have hne:=h.stop (i+1) om om;rw[Zb (sa hne)];exact Ok.mk ⟨k - 1,om,i+1,om,om,rfl,g3,by dsimp only;omega,H,rfl,rfl,rfl,rfl⟩
  · have⟨⟨a1,a2,a3,a4⟩,a,d,g⟩:=u;refine⟨?_,a,d,g⟩;rw[a1,a2,a3,a4]
def ET (l:List Qi) (c:Nat->Qg) (a:Qi->Int) (i:Nat):Int:=match l[(c i).edge.toNat]? with | some e=>(c i).forward * a e | none=>0
structure Ir (x x':Qw) (c:Nat->Qg) (p:Nat) (m:Int):Prop where
  n:x'.n=x.n
  l:x'.l=x.l
  arcs:x'.arcs=x.arcs
  flow:BK x.l x'.flow
  lin:∀φ:Qi->Int,lin φ x.l x'.flow=lin φ x.l x.flow+m * psum (ET x.l c φ) p
def oS {x:Qw} (hx:Bh x) {c:Nat->Qg} {p:Nat} (h:Fd x mp w c p) {m:Int} (hm:1<=m) (E:∀i,i<p->m<=room x (c i)):
    Ok (My x m (w 0) mp (w p)) (λr=>r.2=m/\Ir x r.1 c p m):=by
  unfold My
  let g:(Qi->Int)->Nat->Int:=λb=>ET x.l c b
  let I:Nat->Lz->Prop:=λi f=>BK x.l f/\(∀b,lin b x.l f=lin b x.l x.flow+m * psum (g b) i)/\∀j,i<=j->j<p->f[(c j).edge.toNat]?=x.flow[(c j).edge.toNat]?
  refine Ok.bind (P:=λr=>r.1=x.n/\r.2.1=x.l/\r.2.2.1=x.arcs/\I p r.2.2.2.1/\r.2.2.2.2=m) (Ok.loop (λk s=>∃i,i+k=p/\i<p/\s.1=w i/\s.2.1=x.n/\s.2.2.1=x.l/\s.2.2.2.1=x.arcs/\I i s.2.2.2.2.1/\s.2.2.2.2.2=m) p ⟨0,om,h.pos,rfl,rfl,rfl,rfl,⟨hx.flow,λb=>by simp[psum],λ_ _ _=>rfl⟩,rfl⟩ λk s Y=>?_) λr E=>Ok.mk ?_
  · have⟨i,h1,F,R,S,T,U,⟨H,M,N⟩,V⟩:=Y;have⟨v,n,l,ar,fl,a⟩:=s;dsimp only at R S T U H M N V ⊢;subst R;subst S;subst T;subst U;subst V;rw[h.look i F,ZS];have ha:=h.arc i F;have K:=ha.e0;have d:=E i F;have⟨e,L,Z⟩:=ha.ex;have⟨y,hy,y0,y1,X,hk,hf⟩:=Ou hx L;have e0:=X.lo;have e1:=X.hi;have z:fl[(c i).edge.toNat]?=some y:=by rw[N i (Zq _) F,hy]
    have a0:(c i).edge.toNat<fl.length:=(Zf.1 z).1;have a4:a<=1000:=Int.le_trans d (LW hx ha).2.2;have o:e.Lo<=y+(c i).forward * a/\y+(c i).forward * a<=e.Hi/\i64.wrap (y+i64.wrap ((c i).forward * a))=y+(c i).forward * a:=by
      unfold room at d;rw[L,hy] at d;dsimp only at d;rcases Z with⟨t,_⟩ | ⟨t,_⟩
      · rw[t,Zc dc] at d;rw[t,Int.one_mul,w64 (n:=a) om om,w64 om om];exact⟨om,om,rfl⟩
      · rw[t,Zb dc] at d;rw[t,show (-1:Int) * a=-a by omega,w64 (n:=-a) om om,w64 om om];exact⟨om,om,rfl⟩
    refine Ok.bind (P:=λr=>r=(Qw.mk x.n x.l (fl.set (c i).edge.toNat (y+(c i).forward * a)) x.arcs,a)) ?_ λr E=>?_
    · unfold Pd;dsimp only;rw[Ca _ K,z];simp only[Za];rw[o.2.2];refine Ok.setAt K om (Ok.mk rfl)
    · subst E;dsimp only;rw[h.from' i F];have O:I (i+1) (fl.set (c i).edge.toNat (y+(c i).forward * a)):=by
        refine⟨⟨by rw[ZK];exact H.1,λk' e' y' C u=>?_⟩,λb=>?_,λj hj D=>?_⟩
        · rw[getElem?_set] at u;split at u
          · rename_i ek;subst ek;obtain rfl:=Zn u;rw[L] at C;obtain rfl:=Zn C;exact⟨o.1,o.2.1⟩
          · exact H.2 k' e' y' C u
        · rw[WL b x.l fl _ _ e y L z,M b];show _=_+a * (psum (g b) i+g b i);have:g b i=(c i).forward * b e:=by show ET x.l c b i=_;unfold ET;rw[L]
          rw[this,Int.mul_add,show y+(c i).forward * a - y=(c i).forward * a by omega,show b e * ((c i).forward * a)=a * ((c i).forward * b e) by rw[Int.mul_comm,Int.mul_comm ((c i).forward) a,Int.mul_assoc]];omega
        · rw[getElem?_set_ne,N j om D];intro e';have:=h.edge i j om D;have:=(h.arc j D).e0;omega
      by_cases hp:i+1=p
      · rw[hp,Zc sm];rw[hp] at O;exact Ok.mk ⟨rfl,rfl,rfl,O,rfl⟩
      · have hne:=h.stop (i+1) om om;rw[Zb (sa hne)];exact Ok.mk ⟨k - 1,om,i+1,om,om,rfl,rfl,rfl,rfl,O,rfl⟩
  · have⟨a1,a2,a3,⟨H,M,_⟩,a5⟩:=E;exact⟨a5,a1,a2,a3,H,M⟩
def TG {x:Qw} (hx:Bh x) {c:Nat->Qg} {p:Nat} (h:Fd x mp w c p) (hm:1<=most):
    Ok (JT x mp (w p) (w 0) most) (λr=>1<=r.1/\r.1<=most/\Ir x r.2 c p r.1):=by
  unfold JT;refine (oR hx h hm).bind λr a=>?_;have⟨d,b,e,g⟩:=a;have⟨o,l⟩:=r;dsimp only at d b e g ⊢;subst d;refine (oS hx h b g).bind λr a=>?_;have⟨g1,g2⟩:=a;have⟨l,m⟩:=r;dsimp only at g1 g2 ⊢;subst g1;exact Ok.mk ⟨b,e,g2⟩
def lv (L:Lz) (v:Int):Int:=(L[v.toNat]?).getD 0
def EP {L:Lz} {y:Int} (h0:0<=v) (h:v<L.length) (u:Int) (hu:0<=u):lv (L.set v.toNat y) u=if u=v then y else lv L u:=by
  unfold lv;rw[getElem?_set];by_cases e:u=v
  · subst e;rw[Zc rfl,Zc om,Zc rfl];rfl
  · rw[Zb om,Zb e]
def Ok.lv {L:Lz} (h0:0<=v) (h:v<L.length) {f:Int->Option β} (k:Ok (f (Proofs.YtohojolgolinoaaGreatDoor.lv L v)) Q):Ok ((idx L v).bind f) Q:=by
  have a:v.toNat<L.length:=by omega
  rw[Ca _ h0,Zd a];unfold Proofs.YtohojolgolinoaaGreatDoor.lv at k;rw[Zd a] at k;exact k
def LP {L:Lz} (h0:0<=v) (h:v<L.length):idx L v=some (lv L v):=by
  have a:v.toNat<L.length:=by omega
  rw[Ca _ h0];unfold lv;rw[Zd a];rfl
def Ch {x:Qw} (hx:Bh x) {a:Qg} (ha:a∈x.arcs):E6 x.l a/\0<=a.from'/\a.from'<x.n/\0<=a.to/\a.to<x.n/\a.from'≠a.to/\-1000<=a.cost/\a.cost<=1000:=by
  have h:=hx.arcs a ha;have⟨e,g,l⟩:=h.ex;have m:=hx.edges e (Zo g);have⟨o,r,s,t,_,_,_,u,y,b⟩:=m;refine⟨h,?_⟩;rcases l with⟨_,e1,e2,d⟩ | ⟨_,e1,e2,d⟩<;>rw[e1,e2,d]<;>refine⟨om,om,om,om,?_,om,om⟩
  · exact b
  · exact λe=>b e.symm
structure LI (x:Qw) (k t:Int) (L:Lz) (m:List (Int×Qg)) (τ ρ:Int->Int):Prop where
  len:(L.length:Int)=x.n
  bd:∀v,0<=v->v<x.n->-1000 * t<=lv L v/\lv L v<=0
  t0:0<=t
  ent:∀v a,mget m v=some a->a∈x.arcs/\a.to=v/\1<=room x a/\1<=τ v/\lv L a.from'+a.cost<=lv L v/\(τ v<τ a.from'->lv L a.from'+a.cost<lv L v)/\ρ v - 1<=ρ a.from'
  has:∀v,0<=ρ v->∃a,mget m v=some a
  one:∀v w,τ v=τ w->1<=τ v->v=w
  le:∀v,τ v<=t
  rk:∀v,ρ v<=k
  old:∀a∈x.arcs,1<=room x a->ρ a.from'<k - 1->lv L a.to<=lv L a.from'+a.cost
def LI.put {x:Qw} (hx:Bh x) {k t:Int} {L:Lz} {m:List (Int×Qg)} (h:LI x k t L m τ ρ) {a:Qg} (ha:a∈x.arcs) (E:1<=room x a) (hl:lv L a.from'+a.cost<lv L a.to):
    LI x k (t+1) (L.set a.to.toNat (lv L a.from'+a.cost)) (mset m a.to a) (λv=>if v=a.to then t+1 else τ v) (λv=>if v=a.to then k else ρ v):=by
  have⟨hA,f0,f1,t0,t1,hne,T,U⟩:=Ch hx ha;have hlen:=h.len;have l:∀u,0<=u->lv (L.set a.to.toNat (lv L a.from'+a.cost)) u=if u=a.to then lv L a.from'+a.cost else lv L u:=λu hu=>EP t0 om u hu;have r:∀u,0<=u->lv (L.set a.to.toNat (lv L a.from'+a.cost)) u<=lv L u:=λu hu=>by
    rw[l u hu];split
    · rename_i e;rw[e];omega
    · omega
  refine⟨by rw[ZK];exact hlen,λv h0 H=>?_,by have:=h.t0;omega,λv b hb=>?_,λv s=>?_,λv w d s=>?_,λv=>?_,λv=>?_,λb hb D o=>?_⟩
  · rw[l v h0];have V:=h.bd v h0 H;have X:=h.bd a.from' f0 f1;have Y:=h.bd a.to t0 t1;split<;>omega
  · rw[BO] at hb;by_cases e:v=a.to
    · rw[Zc e] at hb;obtain rfl:=Zn hb;subst e;rw[l _ f0,l _ t0];rw[Zc rfl,Zb hne];simp only[if_true,Zb hne];have:=h.le a.from';have h0:=h.t0;refine⟨ha,trivial,E,om,Zx _,λz=>absurd z om,?_⟩;by_cases I:ρ a.from'<k - 1
      · have:=h.old a ha E I;omega
      · omega
    · rw[Zb e] at hb;have⟨g1,g2,g3,K,M,N,O⟩:=h.ent v b hb;have⟨Z,g,P,y,R,F,_,_⟩:=Ch hx g1;have v0:0<=v:=by omega
      have e1:=r b.from' g;have e2:=l v v0;rw[Zb e] at e2;have C:=l b.from' g;have S:=h.rk v;simp only[Zb e];refine⟨g1,g2,g3,K,om,λz=>?_,?_⟩
      · by_cases eb:b.from'=a.to
        · rw[Zc eb] at C;rw[eb] at M;omega
        · rw[Zb eb] at z C;have:=N z;omega
      · by_cases eb:b.from'=a.to
        · rw[Zc eb];omega
        · rw[Zb eb];exact O
  · rw[BO];by_cases e:v=a.to
    · rw[Zc e];exact⟨_,rfl⟩
    · rw[Zb e];rw[Zb e] at s;exact h.has v s
  · have q1:=h.le v;have q2:=h.le w;by_cases e:v=a.to<;>by_cases e2:w=a.to
    · rw[e,e2]
    · rw[Zc e,Zb e2] at d;omega
    · rw[Zb e,Zc e2] at d;omega
    · rw[Zb e,Zb e2] at d;rw[Zb e] at s;exact h.one v w d s
  · have:=h.le v;split<;>omega
  · have:=h.rk v;split<;>omega
  · have⟨_,g,_,y,_⟩:=Ch hx hb;have e1:=r b.to y;have C:=l b.from' g;by_cases eb:b.from'=a.to
    · rw[Zc eb] at o;omega
    · rw[Zb eb] at o C;have:=h.old b hb D o;omega
def LQ (x:Qw) (k:Int) (L:Lz) (ρ:Int->Int) (i:Nat):Prop:=∀j a,j<i->x.arcs[j]?=some a->1<=room x a->ρ a.from'<k->lv L a.to<=lv L a.from'+a.cost
def LR (x:Qw) (k:Int) (a:Int) (L:Lz) (m:Mp Qg) (t1:Int) (i:Nat):Prop:=∃t b τ ρ,m=some b/\LI x k t L b τ ρ/\LQ x k L ρ i/\t<=t1+i/\-1<=a/\(a<0->∀v,ρ v<k)/\(0<=a->a<x.n/\ρ a=k)
def oT {x:Qw} (hx:Bh x) {k t:Int} {L:Lz} {m:List (Int×Qg)} (h:LI x k t L m τ ρ) (hk:∀v,ρ v<k) (ht:t<=1000000):
    Ok (Qr (λ(d:Int×Int×Lz×Mp Qg)=>((if decide (d.1<(x.arcs.length:Int)) then (idx x.arcs d.1).bind λt26=>(Fs x t26).bind λt30=>(opt ((decide (t30>(0:Int)))==true) (idx d.2.2.1 t26.from') default).bind λt36=>(opt ((decide (t30>(0:Int)))==true) (idx d.2.2.1 t26.to) default).bind λt44=>(if (decide (t30>(0:Int)))&&(decide ((i64.wrap (t36+t26.cost))<t44)) then (idx d.2.2.1 t26.from').bind λt54=>(setAt d.2.2.1 t26.to (i64.wrap (t54+t26.cost))).bind λF=>(mput d.2.2.2 t26.to t26).bind λH=>some (t26.to,F,H) else some (d.2.1,d.2.2.1,d.2.2.2)).bind λ(u:Int×Lz×Mp Qg)=>some (.inl (i64.wrap (d.1+(1:Int)),u.1,u.2.1,u.2.2)) else some (.inr (d.2.1,d.2.2.1,d.2.2.2))):Option ((Int×Int×Lz×Mp Qg)⊕(Int×Lz×Mp Qg)))) ((0:Int),(-1:Int),L,some m))
      (λr=>LR x k r.1 r.2.1 r.2.2 t x.arcs.length):=by
  have a1:=hx.alen;refine Ok.loop (λg s=>∃i:Nat,s.1=i/\i+g=x.arcs.length/\LR x k s.2.1 s.2.2.1 s.2.2.2 t i) x.arcs.length ⟨0,rfl,om,t,m,τ,ρ,rfl,h,λj a S=>absurd S om,om,Zx _,λ_=>hk,λI=>absurd (show (0:Int)<=-1 from I) dc⟩ λg s hs=>?_;have⟨i,h1,h2,T,O,K,M,h3,C,R,h6,U,V,X⟩:=hs;have⟨si,N,D,mm⟩:=s;dsimp only at h1 h3 C R U V X ⊢;subst h1;subst h3;refine Ok.ite (λl=>?_) (λl=>?_)
  · have l:(i:Int)<x.arcs.length:=Zt l;refine Ok.idx om l λa ha Y=>?_;have⟨hA,f0,f1,t0,t1,hne,c0,c1⟩:=Ch hx ha;have hlen:=C.len;have b1:=C.bd a.from' f0 f1;have b2:=C.bd a.to t0 t1;have hi:x.arcs[i]?=some a:=by simpa using Y
    refine Ok.room hx hA λr0 r1=>?_;have z:(1<=room x a->¬(lv D a.from'+a.cost<lv D a.to))->LR x k N D (some O) t (i+1):=λhn=>
      ⟨T,O,K,M,rfl,C,λj b S hb y o=>by
        by_cases e:j=i
        · subst e;rw[hi] at hb;obtain rfl:=Zn hb;have:=hn y;omega
        · exact R j b om hb y o,om,U,V,X⟩
    by_cases hr:1<=room x a
    · have E:room x a>0:=by omega
      simp only[E,decide_true,beq_self_eq_true,TI,Bool.true_and];refine Ok.lv f0 om (Ok.lv t0 om ?_);rw[w64 om om];refine Ok.bind (P:=λp=>LR x k p.1 p.2.1 p.2.2 t (i+1)) (Ok.ite (λhu=>?_) (λhu=>?_)) λp hp=>Ok.mk ⟨g - 1,om,i+1,by rw[w64 om om];rfl,om,hp⟩
      · have hu:lv D a.from'+a.cost<lv D a.to:=Zt hu;apply Ok.lv f0 om;rw[w64 om om];apply Ok.setAt t0 om;refine Ok.mk ⟨T+1,mset O a.to a,_,_,rfl,C.put hx ha hr hu,λj b S hb y o=>?_,om,om,λI=>absurd I om,λ_=>⟨t1,sm⟩⟩;have⟨_,Z,_,a0,_⟩:=Ch hx (Zo hb);dsimp only at o ⊢;rw[EP t0 om _ Z,EP t0 om _ a0];by_cases eb:b.from'=a.to
        · rw[Zc eb] at o;omega
        · rw[Zb eb] at o;rw[Zb eb];by_cases e:j=i
          · subst e;rw[hi] at hb;obtain rfl:=Zn hb;rw[Zc rfl];exact Zx _
          · have:=R j b om hb y o;split
            · rename_i et;rw[et] at this;omega
            · exact this
      · have hu:¬(lv D a.from'+a.cost<lv D a.to):=Zy hu;exact Ok.mk (z λ_=>hu)
    · have E:¬room x a>0:=by omega
      simp only[E,decide_false,show ((false==true)=false) from rfl,jZ,Bool.false_and,Za];rw[Zb dc];exact Ok.mk ⟨g - 1,om,i+1,by rw[w64 om om];rfl,om,z λI=>absurd I hr⟩
  · have l:¬(i:Int)<x.arcs.length:=Zy l;have:i=x.arcs.length:=by omega
    subst this;exact Ok.mk ⟨T,O,K,M,rfl,C,R,h6,U,V,X⟩
def oU (P:Nat->Prop):∀n,P n->∃m,m<=n/\P m/\∀i,i<m->¬P i:=λn=>by
  induction n using Nat.strongRecOn with
  | _ n b=>
    intro h;by_cases a:∃i,i<n/\P i
    · have⟨i,d,e⟩:=a;have⟨m,g1,g2,g3⟩:=b i d e;exact⟨m,om,g2,g3⟩
    · exact⟨n,Zq _,h,λi hi hp=>a ⟨i,hi,hp⟩⟩
def Bt {g g':Nat->Int}:∀{n:Nat},(∀i,i<n->g i=g' i)->psum g n=psum g' n
  | 0,_=>rfl
  | n+1,h=>by show psum g n+g n=psum g' n+g' n;rw[Bt λi hi=>h i om,h n om]
def zarc:Qg:=Qg.mk (0:Int) (0:Int) (0:Int) (0:Int) (0:Int)
def back (m:List (Int×Qg)) (v:Int):Nat->Int
  | 0=>v
  | i+1=>((mget m (back m v i)).getD zarc).from'
def Ff (m:List (Int×Qg)) (v:Int) (i:Nat):∀j,back m v (i+j)=back m (back m v i) j
  | 0=>rfl
  | j+1=>by show ((mget m (back m v (i+j))).getD zarc).from'=((mget m (back m (back m v i) j)).getD zarc).from';rw[Ff m v i j]
def WM {x:Qw} {k t:Int} {L:Lz} {m:List (Int×Qg)} (h:LI x k t L m τ ρ) (b:ρ v=k):∀i:Nat,(i:Int)<=k->k - i<=ρ (back m v i)
  | 0,_=>by show k - 0<=ρ v;omega
  | i+1,hi=>by have d:=WM h b i om;have⟨a,ha⟩:=h.has (back m v i) om;have:=(h.ent _ _ ha).2.2.2.2.2.2;show k - ((i+1:Nat):Int)<=ρ ((mget m (back m v i)).getD zarc).from';rw[ha,ZS];omega
def Rf (x:Qw) (m:Mp Qg) (v:Int):Prop:=∃w c p,Fd x m w c p/\w 0=v/\w p=v/\psum (λi=>(c i).cost) p<=-1
def WN {x:Qw} (hx:Bh x) {k t:Int} {L:Lz} {m:List (Int×Qg)} (h:LI x k t L m τ ρ) (d:∀i,∃a,mget m (back m v i)=some a):
    ∀i:Nat,psum (λi=>((mget m (back m v i)).getD zarc).cost) i<=lv L v - lv L (back m v i)/\(psum (λi=>((mget m (back m v i)).getD zarc).cost) i<lv L v - lv L (back m v i)\/τ (back m v i)+i<=τ v)
  | 0=>by
    refine⟨?_,.inr ?_⟩
    · show (0:Int)<=lv L v - lv L v;omega
    · show τ v+((0:Nat):Int)<=τ v;omega
  | i+1=>by
    have⟨r,b⟩:=WN hx h d i;have⟨a,ha⟩:=d i;have⟨g1,g2,g3,g,s,l,u⟩:=h.ent _ _ ha;have hne:=(Ch hx g1).2.2.2.2.2.1;have e1:back m v (i+1)=a.from':=by show ((mget m (back m v i)).getD zarc).from'=_;rw[ha];rfl
    have e2:psum (λi=>((mget m (back m v i)).getD zarc).cost) (i+1)=psum (λi=>((mget m (back m v i)).getD zarc).cost) i+a.cost:=by show _+((mget m (back m v i)).getD zarc).cost=_;rw[ha];rfl
    rw[e1,e2];refine⟨om,?_⟩;by_cases o:τ (back m v i)<τ a.from'
    · have:=l o;exact .inl om
    · rcases b with b | b
      · exact .inl om
      · have y:τ (back m v i)≠τ a.from':=λe=>hne ((h.one _ _ e g).symm.trans g2.symm);exact .inr (by push_cast;omega)
def oV {x:Qw} (hx:Bh x) {t:Int} {L:Lz} {m:List (Int×Qg)} (h:LI x x.n t L m τ ρ) (h0:0<=v) (h1:v<x.n) (hv:ρ v=x.n):
    Rf x (some m) (back m v x.n.toNat):=by
  have hn:=hx.n0;have hb:=WM h hv;have D:∀i:Nat,(i:Int)<=x.n->∃a,mget m (back m v i)=some a:=λi hi=>h.has _ (by have:=hb i hi;omega);have F:∀i:Nat,(i:Int)<=x.n->0<=back m v i/\back m v i<x.n:=λi hi=>by
    cases i with
    | zero=>exact⟨h0,h1⟩
    | succ i=>
      have⟨a,ha⟩:=D i om;have e1:back m v (i+1)=a.from':=by show ((mget m (back m v i)).getD zarc).from'=_;rw[ha];rfl
      have⟨_,I,s,_⟩:=Ch hx (h.ent _ _ ha).1;rw[e1];exact⟨I,s⟩
  have⟨a,b,a4,a5,he⟩:=WK x.n.toNat (λi=>(back m v i).toNat) (λi hi=>by have:=F i om;omega);have he:back m v a=back m v b:=by have:=F a om;have:=F b om;omega
  -- from a on the way repeats
  have E:∀j,back m v (b+j)=back m v (a+j):=λj=>by rw[Ff,Ff,he]
  have K:∀j,∃i,i<=x.n.toNat/\back m v (a+j)=back m v i:=λj=>by
    induction j using Nat.strongRecOn with
    | _ j ih=>
      by_cases S:a+j<=b
      · exact⟨a+j,om,rfl⟩
      · have⟨i,U,V⟩:=ih (j - (b - a)) om;refine⟨i,U,?_⟩;rw[<-V,<-E (j - (b - a))];congr 1;omega
  let n:=x.n.toNat
  let u:=back m v n
  have hu:∀i,back m u i=back m v (n+i):=λi=>(Ff m v n i).symm;have M:∀i,∃a,mget m (back m u i)=some a:=λi=>by
    rw[hu];have⟨q,I,s⟩:=K (n - a+i);have:a+(n - a+i)=n+i:=by omega
    rw[this] at s;rw[s];exact D q om
  have N:back m u (b - a)=u:=by
    rw[hu];have:=E (n - a);have e1:b+(n - a)=n+(b - a):=by omega
    have e2:a+(n - a)=n:=by omega
    rw[e1,e2] at this;exact this
  have⟨p,_,⟨X,o⟩,r⟩:=oU (λp=>1<=p/\back m u p=u) (b - a) ⟨om,N⟩;have r:∀i,0<i->i<p->back m u i≠u:=λi Y Z e=>r i Z ⟨Y,e⟩;have d:∀i j,i<j->j<p->back m u i≠back m u j:=λi j O C e=>by
    apply r (i+(p - j)) om om;rw[Ff,e,<-Ff];have:j+(p - j)=p:=by omega
    rw[this,o]
  let c:=λi=>(mget m (back m u i)).getD zarc
  have hc:∀i,mget m (back m u i)=some (c i):=λi=>by have⟨a,ha⟩:=M i;show _=some ((mget m (back m u i)).getD zarc);rw[ha];rfl
  have l:=λi=>h.ent _ _ (hc i);have g:psum (λi=>(c i).cost) p<=-1:=by have⟨s1,s2⟩:=WN hx h M p;rw[o] at s1 s2;show psum (λi=>((mget m (back m u i)).getD zarc).cost) p<=-1;omega
  refine⟨back m u,c,p,⟨X,λi _=>hc i,λi _=>(Ch hx (l i).1).1,λi _=>(l i).2.1,λi _=>rfl,λi _=>(l i).2.2.1,λi Y Z=>by rw[o];exact r i Y Z,λi j O C ee=>?_⟩,rfl,o,g⟩;have fi:(c i).from'=back m u (i+1):=rfl;have fj:(c j).from'=back m u (j+1):=rfl;have ti:=(l i).2.1;have T:=(l j).2.1;have⟨e,P,oi⟩:=(Ch hx (l i).1).1.ex;have⟨e',a0,oj⟩:=(Ch hx (l j).1).1.ex;rw[ee,a0] at P;obtain rfl:=Zn P;have hd:=d i j O C;rcases oi with⟨_,a1,a2,a3⟩ | ⟨_,a1,a2,a3⟩<;>rcases oj with⟨_,b1,R,b3⟩ | ⟨_,b1,R,b3⟩
  · exact hd (by rw[<-ti,<-T,a2,R])
  · have I:back m u (i+1)=back m u j:=by rw[<-fi,<-T,a1,R]
    have s:back m u i=back m u (j+1):=by rw[<-ti,<-fj,a2,b1]
    have S:j=i+1:=by
      by_cases y:i+1<j
      · exact absurd I (d (i+1) j y C)
      · omega
    have z:j+1=p:=by
      by_cases y:j+1<p
      · exact absurd s (d i (j+1) om y)
      · omega
    have H:i=0:=by
      by_cases y:0<i
      · rw[z,o] at s;exact absurd s (r i y om)
      · omega
    subst H;have hp:p=2:=by omega
    subst hp;subst S;have:psum (λi=>(c i).cost) 2=(c 0).cost+(c 1).cost:=by simp[psum]
    rw[this,a3] at g;rw[b3] at g;omega
  · have I:back m u (i+1)=back m u j:=by rw[<-fi,<-T,a1,R]
    have s:back m u i=back m u (j+1):=by rw[<-ti,<-fj,a2,b1]
    have S:j=i+1:=by
      by_cases y:i+1<j
      · exact absurd I (d (i+1) j y C)
      · omega
    have z:j+1=p:=by
      by_cases y:j+1<p
      · exact absurd s (d i (j+1) om y)
      · omega
    have H:i=0:=by
      by_cases y:0<i
      · rw[z,o] at s;exact absurd s (r i y om)
      · omega
    subst H;have hp:p=2:=by omega
    subst hp;subst S;have:psum (λi=>(c i).cost) 2=(c 0).cost+(c 1).cost:=by simp[psum]
    rw[this,a3] at g;rw[b3] at g;omega
  · exact hd (by rw[<-ti,<-T,a2,R])
def WO (x:Qw) (L:Lz):Prop:=(L.length:Int)=x.n/\(∀v,0<=v->v<x.n->-100000000<=lv L v/\lv L v<=0)/\∀a∈x.arcs,1<=room x a->lv L a.to<=lv L a.from'+a.cost
def cT {x:Qw} (hx:Bh x):Ok (Ms x) (λr=>(r.2.1=none/\WO x r.1)\/(∃m,r.2.1=some m/\Rf x (some m) r.2.2)):=by
  have y:=hx.n0;have R:=hx.n1;have S:=hx.alen;unfold Ms;apply Ok.mk' y om;refine Ok.bind (P:=λr=>(r.2.1=none/\WO x r.2.2)\/(∃m,r.2.1=some m/\Rf x (some m) r.1)) (Ok.loop (λg s=>∃k:Nat,s.1=k/\k+g=x.n.toNat/\∃t m τ ρ,s.2.2=some m/\LI x k t s.2.1 m τ ρ/\(∀v,ρ v<k)/\t<=512 * k) x.n.toNat ⟨0,rfl,om,0,[],λ_=>0,λ_=>-1,rfl,⟨so,λv h0 z=>?_,Zx _,λv a h=>by simp[mget] at h,λv h=>absurd h dc,λv w _ h=>absurd h dc,λv=>Zx _,λv=>dc,λa _ _ h=>absurd h dc⟩,λv=>show (-1:Int)<0 by decide,dc⟩ λg s C=>?_) λr d=>Ok.mk d
  · have:lv (replicate x.n.toNat 0) v=0:=by
      unfold lv;rw[getElem?_replicate];split<;>rfl
    dsimp only;rw[this];exact⟨om,om⟩
  · have⟨k,z,h2,t,m,τ,ρ,F,H,T,h6⟩:=C;have⟨sk,L,mm⟩:=s;dsimp only at z F H ⊢;subst z;subst F;refine (oT hx H T om).bind λr d=>?_;have⟨U,u,D,E,g1,g2,g3,g4,V,I,K⟩:=d;have⟨b,L',X⟩:=r;dsimp only at g1 g2 g3 V I K ⊢;subst g1;refine Ok.ite (λhl=>?_) (λhl=>?_)
    · have hl:b<0:=Zt hl;refine Ok.mk (.inl ⟨rfl,g2.len,λv v0 v1=>?_,λa ha d=>?_⟩)
      · have:=g2.bd v v0 v1;dsimp only;omega
      · have⟨j,l,e⟩:=mem_iff_getElem.1 ha;exact g3 j a l (by rw[Zd l,e]) d (I hl _)
    · have hl:¬b<0:=Zy hl;have⟨Y,M⟩:=K om;refine Ok.ite (λo=>?_) (λo=>?_)
      · have o:(k:Int)<x.n:=Zt o;refine Ok.mk ⟨g - 1,om,k+1,?_,om,U,u,D,E,rfl,⟨g2.len,g2.bd,g2.t0,g2.ent,g2.has,g2.one,g2.le,λv=>?_,λa ha d Z=>?_⟩,λv=>?_,om⟩
        · rw[w64 om om];rfl
        · have:=g2.rk v;omega
        · have⟨j,l,e⟩:=mem_iff_getElem.1 ha;exact g3 j a l (by rw[Zd l,e]) d om
        · have:=g2.rk v;omega
      · have o:¬(k:Int)<x.n:=Zy o;have ek:(k:Int)=x.n:=by omega
        rw[ek] at g2 M;refine Ok.bind (P:=λr=>r=back u b x.n.toNat) (Ok.loop (λg s=>∃i:Nat,s.1=i/\i+g=x.n.toNat/\s.2=back u b i) x.n.toNat ⟨0,rfl,om,rfl⟩ λg s C=>?_) λr d=>Ok.mk (.inr ⟨u,rfl,?_⟩)
        · have⟨i,N,i2,O⟩:=C;have⟨si,v⟩:=s;dsimp only at N O ⊢;subst N;subst O;refine Ok.ite (λhi=>?_) (λhi=>?_)
          · have hi:(i:Int)<x.n:=Zt hi;exact Ok.mk ⟨g - 1,om,i+1,by rw[w64 om om];rfl,om,rfl⟩
          · have hi:¬(i:Int)<x.n:=Zy hi;have:i=x.n.toNat:=by omega
            subst this;exact Ok.mk rfl
        · subst d;exact oV hx g2 om Y M

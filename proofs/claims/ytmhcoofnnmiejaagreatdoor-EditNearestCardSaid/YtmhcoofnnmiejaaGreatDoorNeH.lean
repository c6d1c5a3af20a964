/- world.Check of a world that fits. No condition. -/
import Derived.Test.YtmhcoofnnmiejaaGreatDoorCtI
set_option linter.all false
open List Go.IntKind
namespace Go.Proofs.YtmhcoofnnmiejaaGreatDoor
open Go.Sim
variable {v:Int} {τ:Int->Int} {i:Nat} {w:Nat->Int} {mp:Mp Qg} {ρ:Int->Int} {x':Qw} {β:Type} {Q:β->Prop} {g':Nat->Int} {most:Int} {h:Nat->Int}
section
variable {x:Qc} {c:Nat->Nat} {W:Wd} {L:List Qh} {R:MpK Qh (List (List Int))} {V:MpK Str Qm}
def QdJ (n:Nat) (o:List Qy):Prop:=o.length<=n/\∀p∈o,0<=p.Xi
theorem QdJ.Xo {a b:Nat} {o:List Qy} (h:QdJ a o) (d:a<=b):QdJ b o:=⟨by have:=h.1;omega,h.2⟩
theorem Qvq (b:Bool) (e:Int):Qb0 b e=some (if b=true then e else 0):=by unfold Qb0;cases b<;>rfl
theorem Ok.when {b:Bool} {e:Int} {G:Int->Option β} (k:∀r,Ok (G r) Q):Ok ((Qb0 b e).bind G) Q:=by rw[Qvq];exact k _
theorem Qqo {d:QaB} {k a f e:Int} {n:Nat} (m:n<=1000000) (g:0<=k) (b:QdJ n d.out):Ok (Qb5 d k a f [e]) (λr=>∃o,r=⟨d.x,d.w,d.links,d.refs,d.lives,o⟩/\QdJ (n+1) o):=by
  unfold Qb5;refine Ok.bind (P:=QdJ (n+1)) (Ok.cnt [e].length (λi o=>QdJ (n+i) o) (by simpa using b) (λi o hi b=>?_) λo b=>by rw[QaE];exact Ok.mk (by simpa using b)) λo b=>Ok.mk ⟨o,rfl,b⟩;have j:i<1:=hi;rw[QaC hi,QY hi];dsimp only[Option.bind_some];refine Ok.bind (P:=QdJ (n+(i+1))) (Ok.ite (λ_=>Ok.rm (by have:=b.1;simp;omega) (Ok.mk ⟨by have:=b.1;simp;omega,λp hp=>?_⟩)) λ_=>Ok.mk (b.Xo (by omega))) λr l=>Ok.mk ⟨QD hi (by simp),l⟩;rcases ZB.1 hp with hp | hp
  · exact b.2 p hp
  · rw[Zg.1 hp];exact g
theorem Old.g2k (h:Old x c W) {k f:Nat} (a:k<x.Xa.length) (hi:i<c k) (hf:f<Go.Proofs.YtmhcoofnnmiejaaGreatDoor.nf x k):idx (g2 W k i) (f:Int)=some (g3 W k i f):=h.sh.i3 a hi hf
theorem Old.fields (h:Old x c W) {k:Nat} (a:k<x.Xa.length):(kd x k).Xb.length<=1000000:=by have:=h.nf a;unfold Go.Proofs.YtmhcoofnnmiejaaGreatDoor.nf at this;omega
theorem sum_ok (h:Old x c W) (z:CkOk x c L R) {o:List Qy} {k f:Nat} (A:k<x.Xa.length) (hi:i<c k) (hf:f<nf x k) (F:(fd x k f).Xi=6):Ok (Qd7 ⟨x,W,L,R,V,o⟩ k i f) (λ_=>True):=by
  obtain⟨m,a,e,H,hm,ha,I,K⟩:=Qzi h.clean A hf F;obtain⟨g,u,e2,M,N,B,O,S⟩:=Qqm h.clean hm ha (.inl I);have:u=k:=by omega
  subst this;have hl:=z.all m g u hm M N B;obtain⟨l,T,C,D⟩:=z.refs _ hl;unfold Qd7;dsimp only;rw[Qk8 h.few,e];dsimp only[Option.bind_some];rw[Qbl hm];dsimp only[Option.bind_some];rw[Qgf ha];dsimp only[Option.bind_some];rw[Qbk (h.fields hm),e2];dsimp only[Option.bind_some];rw[QwK (z.link _ hl) (by have:=h.kinds;omega) (λk A=>by have:=h.nf A;omega),T];dsimp only[Option.bind_some,Option.getD_some];have b:l.length=c u:=C;rw[show idx l (i:Int)=some (l[i]'(by rw[b];exact hi)) from QY _];dsimp only[Option.bind_some];have d:=D _ (Zo (show i<l.length by rw[b];exact hi));generalize l[i]'(by rw[b];exact hi)=q at d ⊢;have U:=h.le m hm;refine Ok.bind (P:=λ_=>True) (Ok.loop (λn s=>0<=s.1/\s.1+n=q.length+1) (q.length+1) ⟨Zx _,by dsimp only;omega⟩ λn s X=>?_) λr _=>Ok.mk trivial;refine Ok.ite (λt=>?_) λ_=>Ok.mk trivial;have p:=Zt t;refine Ok.idx X.1 p λv Y _=>?_;obtain⟨j,rfl,Z⟩:=d.2 v Y;have y:j<c m:=Z;refine Ok.g1 h.sh hm (Ok.g2 h.sh hm y (Ok.g3 h.sh hm y ha (Ok.mk ⟨n - 1,by omega,?_⟩)));have E:q.length<=c m:=d.1;rw[w64 (n:=s.1+1) (by omega) (by omega)];dsimp only;omega
theorem QBO (h:Old x c W) (F:CkOk x c L R) {o:List Qy} {k f:Nat} (a:k<x.Xa.length) (hi:i<c k) (hf:f<nf x k) {m:Mp Bool} (hm:∃l,m=some l):Ok (Qdz ⟨x,W,L,R,V,o⟩ k i f m) (λr=>∃l,r.2=some l):=by
  obtain⟨D,rfl⟩:=hm;have H:Qom (fd x k f):=QhK ((Qip ((QdZ h.clean).kind _ (Qmc a))).2.2 _ (Qts hf));unfold Qdz;dsimp only;rw[Qbl a];dsimp only[Option.bind_some];refine Ok.g1 h.sh a (Ok.g2 h.sh a hi ?_);rw[Qgf hf];dsimp only[Option.bind_some];refine Ok.g3 h.sh a hi hf ?_;have d:∀n,Ok ((Qcn n (fd x k f)).bind λt=>(some (t,some D):Option (Int×Mp Bool))) (λr=>∃l,r.2=some l):=λn=>by unfold Qcn;rw[Qvq];exact Ok.mk ⟨_,rfl⟩
  refine Ok.ite (λ_=>Ok.ite (λ_=>Ok.mk ⟨_,rfl⟩) λ_=>?_) λh0=>?_
  · show Ok ((some (some (mset D _ true)):Option (Mp Bool)).bind _) _;exact Ok.when λ_=>Ok.mk ⟨_,rfl⟩
  refine Ok.bind (P:=λ_=>True) (Ok.ite (λ_=>Ok.mk trivial) λ_=>Ok.mk trivial) λb _=>?_;refine Ok.ite (λ_=>d _) λ_=>?_;refine Ok.ite (λI=>?_) λ_=>?_
  · have s:(fd x k f).Xi=3:=by simpa using I
    obtain⟨Z,p2⟩:=H.pick s;refine Ok.opt (P:=λ_=>True) (λhb=>?_) λ_ _=>Ok.when λ_=>Ok.mk ⟨_,rfl⟩;have K:0<=g3 W k i f/\g3 W k i f<(fd x k f).Words.length:=by
      have:((decide (g3 W k i f<0))||(decide (g3 W k i f>=((fd x k f).Words.length:Int))))=false:=by simpa using hb
      simp only[Bool.or_eq_false_iff,ZI] at this;omega
    rw[w64 (n:=((fd x k f).Words.length:Int) - 1) (by omega) (by omega)];have:0<=imax 0 (imin (g3 W k i f) (((fd x k f).Words.length:Int) - 1))/\imax 0 (imin (g3 W k i f) (((fd x k f).Words.length:Int) - 1))<((fd x k f).Xf.length:Int):=by unfold imax imin;split<;>split<;>omega
    obtain⟨v,e,_⟩:=QcF this.1 this.2;exact Ok.eq e trivial
  refine Ok.ite (λM=>?_) λ_=>?_
  · have y:(fd x k f).Xi=4:=by simpa using M
    refine Ok.bind (P:=λ_=>True) (Ok.ite (λN=>?_) λ_=>Ok.mk trivial) λv _=>d v;obtain⟨g,e,z,_⟩:=Qtv h.clean a hf y (by simpa using N);rw[Qbk (h.fields a),e];dsimp only[Option.bind_some];exact Ok.g3 h.sh a hi (show g<nf x k by omega) (Ok.mk trivial)
  refine Ok.ite (λ_=>?_) λ_=>?_
  · refine (Qrx _ _ _).bind λr O=>Ok.opt (P:=λt:List Int=>t.length<=12) (λ_=>QBL O) λt ht=>?_;refine Ok.opt (P:=λ_=>True) (λhb=>Qup (by have:=ht hb;omega) _) λ_ _=>Ok.when λ_=>Ok.mk ⟨_,rfl⟩
  refine Ok.ite (λS=>?_) λ_=>?_
  · exact (sum_ok h F a hi hf (by simpa using S)).bind λt _=>Ok.when λ_=>Ok.mk ⟨_,rfl⟩
  refine Ok.ite (λT=>?_) λ_=>Ok.mk ⟨_,rfl⟩;have p:(fd x k f).Xi=8:=by simpa using T
  obtain⟨g,u,e,z,U,q,A,B⟩:=Qqm h.clean a hf (.inr p);obtain⟨X,e2,C⟩:=Qvm h.clean a hf p A B;obtain⟨j,Y,E⟩:=h.ref a hi z U q;unfold QfO;dsimp only;rw[Qbl a];dsimp only[Option.bind_some];rw[Qbk (h.fields a),e];dsimp only[Option.bind_some];rw[Qfa h.few,q,h.g2k a hi z,Y];dsimp only[Option.bind_some];have hu:u<x.Xa.length:=by omega
  refine Ok.g1 h.sh hu (Ok.g2 h.sh hu E ?_);rw[Qbl hu];dsimp only[Option.bind_some];rw[Qbk (h.fields hu),e2];dsimp only[Option.bind_some];exact Ok.g3 h.sh hu E C (Ok.when λ_=>Ok.mk ⟨_,rfl⟩)
theorem QBP (h:Old x c W) {k:Nat} (j:k<x.Xa.length) (hi:i<c k) {r:QL} (l:r∈x.Xc) (m:Q3 x r.Xi=k):Ok (QhG (kd x k) (g2 W k i) r) (λ_=>True):=by
  obtain⟨d,e,_,_,o⟩:=Qvn h.clean l;have:d=k:=by omega
  subst this;have one:∀n,n=r.A\/n=r.B->Ok (QeQ n (g2 W d i) (kd x d)) (λ_=>True):=λn f=>by unfold QeQ;refine Ok.ite (λ_=>Ok.mk trivial) λhne=>?_;obtain⟨g,e,p,_⟩:=o n f (by simpa using hne);rw[Qbk (h.fields j),e];dsimp only[Option.bind_some];exact Ok.g3 h.sh j hi p (Ok.mk trivial)
  unfold QhG;exact (one _ (.inl rfl)).bind λa _=>(one _ (.inr rfl)).bind λb _=>Ok.mk trivial
theorem Qzs (h:Old x c W):Ok (QhH x W) (λr=>∀p∈r,0<=p.Xi):=by
  have K:=h.kinds;have H:=(QdZ h.clean).rules;unfold QhH;refine (QrX h).bind λr A=>?_;obtain⟨e0,L,R,V,e1,C,T⟩:=A;rw[e0,e1];dsimp only[Option.bind_some];rw[Zb (by decide)];refine Ok.bind (P:=λq=>∃o,q=(x,W,L,R,V,o)/\QdJ 6 o) (Ok.cnt W.length (λi q=>∃o,q=(x,W,L,R,V,o)/\QdJ i o) ⟨[],rfl,by simp[QdJ]⟩ (λk q s a=>?_) λq a=>?_) λq a=>?_
  · obtain⟨o,rfl,d⟩:=a;have g:k<x.Xa.length:=by rw[<-h.sh.len];exact s
    rw[QaC s];refine Ok.g1 h.sh g ?_;rw[Qbl g];dsimp only[Option.bind_some];refine Ok.opt (P:=λ_=>True) (λ_=>Ok.mk trivial) λy _=>Ok.when λe=>?_;refine (Qqo (n:=k) (by omega) (by omega) d).bind λr A=>?_;obtain⟨o',rfl,m⟩:=A;exact Ok.mk ⟨QD s (by rw[h.sh.len];omega),o',rfl,m⟩
  · obtain⟨o,rfl,d⟩:=a;rw[QaE];exact Ok.mk ⟨o,rfl,d.Xo (by rw[h.sh.len];omega)⟩
  obtain⟨o,rfl,d⟩:=a;dsimp only;refine Ok.bind (P:=λq=>∃o,q=(x,W,L,R,V,o)/\QdJ 100000 o) (Ok.cnt W.length (λk q=>∃o,q=(x,W,L,R,V,o)/\QdJ (6+k * 6000) o) ⟨o,rfl,by simpa using d⟩ (λk q s a=>?_) λq a=>?_) λq a=>?_
  · obtain⟨o,rfl,d⟩:=a;have g:k<x.Xa.length:=by rw[<-h.sh.len];exact s
    have D:=h.le k g;have U:=h.nf g;rw[QaC s];refine Ok.g1 h.sh g ?_;refine Ok.bind (P:=λq=>∃o,q=(x,W,L,R,V,o)/\QdJ (6+(k+1) * 6000) o) (Ok.cnt (g1 W k).length (λi q=>∃o l,q=(x,W,L,R,V,o,some l)/\QdJ (6+k * 6000+i * 100) o) ⟨o,[],rfl,by simpa using d⟩ (λi q hi a=>?_) λq a=>?_) λq a=>?_
    · obtain⟨o,l,rfl,d⟩:=a;have B:i<c k:=by rw[h.sh.row k g] at hi;exact hi
      rw[QaC hi];refine Ok.g2 h.sh g B ?_;have hlen:=h.sh.fld k i g B;refine Ok.bind (P:=λq=>∃o l,q=(x,W,L,R,V,o,some l)/\QdJ (6+k * 6000+i * 100+9) o) (Ok.cnt (g2 W k i).length (λf q=>∃o l,q=(x,W,L,R,V,o,some l)/\QdJ (6+k * 6000+i * 100+f) o) ⟨o,l,rfl,by simpa using d⟩ (λf q hf a=>?_) λq a=>?_) λq a=>?_
      · obtain⟨o,l,rfl,d⟩:=a;have E:f<nf x k:=by rw[hlen] at hf;exact hf
        rw[QaC hf];dsimp only;refine (QBO h C g B E ⟨l,rfl⟩).bind λt ht=>?_;obtain⟨M,F⟩:=ht;refine (Qqo (n:=6+k * 6000+i * 100+f) (by omega) (by omega) d).bind λr A=>?_;obtain⟨o',rfl,m⟩:=A;rw[F];exact Ok.mk ⟨QD hf (by omega),o',M,rfl,m⟩
      · obtain⟨o,l,rfl,d⟩:=a;rw[QaE];exact Ok.mk ⟨o,l,rfl,d.Xo (by omega)⟩
      · obtain⟨o,l,rfl,d⟩:=a;dsimp only;refine Ok.bind (P:=λq=>∃o,q=(x,W,L,R,V,o)/\QdJ (6+k * 6000+(i+1) * 100) o) (Ok.cnt x.Xc.length (λj q=>∃o,q=(x,W,L,R,V,o)/\QdJ (6+k * 6000+i * 100+9+j) o) ⟨o,rfl,by simpa using d⟩ (λj q z a=>?_) λq a=>?_) λq a=>?_
        · obtain⟨o,rfl,d⟩:=a;rw[QaC z,QY z];dsimp only[Option.bind_some];rw[QdR (by omega)];dsimp only[Option.bind_some];refine Ok.opt (P:=λy=>y=kd x k) (λ_=>Ok.eq (Qbl g) rfl) λy hy=>?_;refine Ok.opt (P:=λ_=>True) (λI=>?_) λb _=>Ok.when λe=>?_
          · rw[hy I];exact QBP h g B (Zo z) (by simpa using I)
          · refine (Qqo (n:=6+k * 6000+i * 100+9+j) (by omega) (by omega) d).bind λr A=>?_;obtain⟨o',rfl,m⟩:=A;exact Ok.mk ⟨QD z (by omega),o',rfl,m⟩
        · obtain⟨o,rfl,d⟩:=a;rw[QaE];exact Ok.mk ⟨o,rfl,d.Xo (by omega)⟩
        · obtain⟨o,rfl,d⟩:=a;exact Ok.mk ⟨QD hi (by rw[h.sh.row k g];omega),o,l,rfl,d⟩
    · obtain⟨o,l,rfl,d⟩:=a;rw[QaE];exact Ok.mk ⟨o,rfl,d.Xo (by rw[h.sh.row k g];omega)⟩
    · obtain⟨o,rfl,d⟩:=a;exact Ok.mk ⟨QD s (by rw[h.sh.len];omega),o,rfl,d⟩
  · obtain⟨o,rfl,d⟩:=a;rw[QaE];exact Ok.mk ⟨o,rfl,d.Xo (by rw[h.sh.len];omega)⟩
  obtain⟨o,rfl,d⟩:=a;dsimp only;refine Ok.bind (P:=λq=>∃o,q=(x,W,L,R,V,o)/\∀p∈o,0<=p.Xi) (Ok.cnt L.length (λj q=>∃o,q=(x,W,L,R,V,o)/\QdJ (100000+j * 100) o) ⟨o,rfl,by simpa using d⟩ (λj q z a=>?_) λq a=>?_) λq a=>?_
  · obtain⟨o,rfl,d⟩:=a;rw[QaC z,QY z];dsimp only[Option.bind_some];have hy:=C.link _ (Zo z);obtain⟨l,F,hl,_⟩:=C.refs _ (Zo z);have N:=QwK hy (by omega) (λk s=>by have:=h.nf s;omega);obtain⟨k,f,u,e,s,hf,X,hu,O⟩:=hy;rw[N,F];rw[e] at hl ⊢;have D:=h.le u (by omega);have S:l.length=c u:=hl;dsimp only[Option.bind_some];rw[Qbl s];dsimp only[Option.bind_some];rw[Qgf hf];dsimp only[Option.bind_some,Option.getD_some];refine Ok.bind (P:=λq=>∃o,q=(x,W,L,R,V,o)/\QdJ (100000+(j+1) * 100) o) (Ok.cnt l.length (λi q=>∃o,q=(x,W,L,R,V,o)/\QdJ (100000+j * 100+i) o) ⟨o,rfl,by simpa using d⟩ (λi q hi a=>?_) λq a=>?_) λq a=>?_
    · obtain⟨o,rfl,d⟩:=a;rw[QaC hi,QY hi];dsimp only[Option.bind_some];refine Ok.when λe=>(Qqo (n:=100000+j * 100+i) (by omega) (by omega) d).bind λr A=>?_;obtain⟨o',rfl,m⟩:=A;exact Ok.mk ⟨QD hi (by omega),o',rfl,m⟩
    · obtain⟨o,rfl,d⟩:=a;rw[QaE];exact Ok.mk ⟨o,rfl,d.Xo (by omega)⟩
    · obtain⟨o,rfl,d⟩:=a;exact Ok.mk ⟨QD z (by omega),o,rfl,d⟩
  · obtain⟨o,rfl,d⟩:=a;rw[QaE];exact Ok.mk ⟨o,rfl,d.2⟩
  · obtain⟨o,rfl,d⟩:=a;exact Ok.mk d
end
theorem Qzt:∀(n:Nat) (g:Nat->Nat),(∀i,i<=n->g i<n)->∃a b,a<b/\b<=n/\g a=g b
  | 0,g,h=>absurd (h 0 (Zr _)) (by omega)
  | n+1,g,h=>by
    by_cases l:∃a,a<=n/\g a=g (n+1)
    · obtain⟨a,f,d⟩:=l;exact⟨a,n+1,by omega,Zr _,d⟩
    · have hne:∀a,a<=n->g a≠g (n+1):=λa ha e=>l ⟨a,ha,e⟩;obtain⟨a,b,f,d,j⟩:=Qzt n (λi=>if g i=n then g (n+1) else g i) (λi hi=>by
        have f:=h i (by omega);have d:=h (n+1) (Zr _);have j:=hne i hi;split<;>omega)
      refine⟨a,b,f,by omega,?_⟩;have ha:=hne a (by omega);have hb:=hne b d;split at j<;>split at j<;>omega
def lin (a:Qi->Int):List Qi->List Int->Int
  | e::l,y::f=>a e * y+lin a l f
  | _,_=>0
theorem Qvr (d:Qi->Int):∀(l:List Qi) (f:List Int) (k:Nat) (y:Int) (e:Qi) (z:Int),l[k]?=some e->f[k]?=some z->lin d l (f.set k y)=lin d l f+d e * (y - z)
  | [],f,k,y,e,z,h,_=>by simp at h
  | a::l,[],k,y,e,z,_,h=>by simp at h
  | a::l,b::f,0,y,e,z,h1,h2=>by simp at h1 h2;subst h1;subst h2;simp only[set_cons_zero,lin];rw[Int.mul_sub];omega
  | a::l,b::f,k+1,y,e,z,h1,h2=>by simp only[getElem?_cons_succ] at h1 h2;simp only[set_cons_succ,lin];rw[Qvr d l f k y e z h1 h2];omega
def psum (g:Nat->Int):Nat->Int
  | 0=>0
  | n+1=>psum g n+g n
structure QnR (n:Int) (e:Qi):Prop where
  f0:0<=e.From
  f1:e.From<n
  t0:0<=e.To
  t1:e.To<n
  lo:0<=e.Lo
  le:e.Lo<=e.Hi
  hi:e.Hi<=1000
  c0:-1000<=e.Cost
  c1:e.Cost<=1000
  ne:e.From≠e.To
structure Qks (l:List Qi) (a:Qg):Prop where
  e0:0<=a.edge
  ex:∃e,l[a.edge.toNat]?=some e/\((a.forward=1/\a.from'=e.From/\a.to=e.To/\a.cost=e.Cost)\/(a.forward=-1/\a.from'=e.To/\a.to=e.From/\a.cost=-e.Cost))
def Qc4 (l:List Qi) (f:List Int):Prop:=f.length=l.length/\∀(k:Nat) (e:Qi) (y:Int),l[k]?=some e->f[k]?=some y->e.Lo<=y/\y<=e.Hi
structure QdD (x:Qw):Prop where
  n0:0<=x.n
  n1:x.n<=64
  l1:x.l.length<=256
  edges:∀e∈x.l,QnR x.n e
  flow:Qc4 x.l x.flow
  arcs:∀a∈x.arcs,Qks x.l a
  alen:x.arcs.length<=512
def room (x:Qw) (a:Qg):Int:=match x.l[a.edge.toNat]?,x.flow[a.edge.toNat]? with
  | some e,some y=>if a.forward>0 then e.Hi - y else y - e.Lo
  | _,_=>0
theorem QqS {x:Qw} (h:QdD x) {k:Nat} {e:Qi} (a:x.l[k]?=some e):∃y,x.flow[k]?=some y/\e.Lo<=y/\y<=e.Hi/\QnR x.n e/\k<x.l.length/\k<x.flow.length:=by
  have b:k<x.l.length:=(Ze.1 a).1;have hf:k<x.flow.length:=by rw[h.flow.1];exact b
  have hy:=Zd hf;obtain⟨d,f⟩:=h.flow.2 k e _ a hy;exact⟨_,hy,d,f,h.edges e (Zl a),b,hf⟩
theorem Qot {x:Qw} (h:QdD x) {a:Qg} (ha:Qks x.l a):QbW x a=some (room x a)/\0<=room x a/\room x a<=1000:=by
  obtain⟨e,f,j⟩:=ha.ex;obtain⟨y,hy,l,m,g,n,hf⟩:=QqS h f;have h0:=g.lo;have o:=g.hi;have d:=ha.e0;unfold QbW room;rw[f,hy];dsimp only;rw[QeR _ d,QeR _ d,f,hy];simp only[Za];rcases j with⟨b,_⟩ | ⟨b,_⟩
  · rw[b,Zc (by decide),Zc (by decide),w64 (by omega) (by omega)];exact⟨rfl,by omega,by omega⟩
  · rw[b,Zb (by decide),Zb (by decide),w64 (by omega) (by omega)];exact⟨rfl,by omega,by omega⟩
theorem Ok.room {x:Qw} (h:QdD x) {a:Qg} (ha:Qks x.l a) {f:Int->Option β} (k:0<=Proofs.YtmhcoofnnmiejaaGreatDoor.room x a->Proofs.YtmhcoofnnmiejaaGreatDoor.room x a<=1000->Ok (f (Proofs.YtmhcoofnnmiejaaGreatDoor.room x a)) Q):Ok ((QbW x a).bind f) Q:=by obtain⟨b,d,e⟩:=Qot h ha;rw[b];exact k d e
structure Qlt (x:Qw) (m:Mp Qg) (w:Nat->Int) (c:Nat->Qg) (p:Nat):Prop where
  pos:1<=p
  look:∀i,i<p->QaX m (w i)=some (c i)
  arc:∀i,i<p->Qks x.l (c i)
  to:∀i,i<p->(c i).to=w i
  from':∀i,i<p->(c i).from'=w (i+1)
  room:∀i,i<p->1<=room x (c i)
  stop:∀i,0<i->i<p->w i≠w p
  edge:∀i j,i<j->j<p->(c i).edge≠(c j).edge
theorem Qtz (a b:Int):imin a b<=a:=by unfold imin;split<;>omega
theorem QtA (a b:Int):imin a b<=b:=by unfold imin;split<;>omega
theorem Qvs {a b c:Int} (h:c<=a) (d:c<=b):c<=imin a b:=by unfold imin;split<;>omega
theorem QBQ {x:Qw} (hx:QdD x) {m:Mp Qg} {c:Nat->Qg} {p:Nat} (h:Qlt x m w c p) (hm:1<=most):
    Ok (Qcc most x (w 0) m (w p)) (λr=>r.2=x/\1<=r.1/\r.1<=most/\∀i,i<p->r.1<=room x (c i)):=by
  unfold Qcc;refine Ok.bind (P:=λr=>(r.2.1=x.n/\r.2.2.1=x.l/\r.2.2.2.1=x.arcs/\r.2.2.2.2=x.flow)/\1<=r.1/\r.1<=most/\∀i,i<p->r.1<=room x (c i)) (Ok.loop (λk s=>∃i,i+k=p/\i<p/\s.1=w i/\1<=s.2.1/\s.2.1<=most/\(∀j,j<i->s.2.1<=room x (c j))/\s.2.2.1=x.n/\s.2.2.2.1=x.l/\s.2.2.2.2.1=x.arcs/\s.2.2.2.2.2=x.flow) p ⟨0,by omega,h.pos,rfl,hm,Zx _,λj o=>absurd o (by omega),rfl,rfl,rfl,rfl⟩ λk s E=>?_) λr q=>Ok.mk ?_
  · obtain⟨i,H,a,d,f,F,z,A,B,C,b⟩:=E;obtain⟨v,g,n,l,I,fl⟩:=s;dsimp only at d f F z A B C b ⊢;subst d;subst A;subst B;subst C;subst b;rw[h.look i a,ZQ];refine Ok.bind (P:=λr=>r.2=x/\r.1=imin g (room x (c i))) ?_ λr q=>?_
    · unfold QdM;refine Ok.room hx (h.arc i a) λr0 r1=>Ok.mk ⟨rfl,rfl⟩
    · obtain⟨t,y⟩:=q;rw[t,y,h.from' i a];have g1:=Qtz g (room x (c i));have g2:=QtA g (room x (c i));have g3:=Qvs f (h.room i a);have D:∀j,j<i+1->imin g (room x (c i))<=room x (c j):=λj o=>by
        by_cases e:j=i
        · rw[e];exact g2
        · exact Int.le_trans g1 (z j (by omega))
      by_cases hp:i+1=p
      · rw[hp,Zc (by simp)];refine Ok.mk ⟨⟨rfl,rfl,rfl,rfl⟩,g3,by dsimp only;omega,λj o=>D j (by omega)⟩
      · have hne:=h.stop (i+1) (by omega) (by omega);rw[Zb (by simpa using hne)];exact Ok.mk ⟨k - 1,by omega,i+1,by omega,by omega,rfl,g3,by dsimp only;omega,D,rfl,rfl,rfl,rfl⟩
  · obtain⟨⟨a1,a2,a3,a4⟩,a,d,f⟩:=q;refine⟨?_,a,d,f⟩;rw[a1,a2,a3,a4]
def Qjh (l:List Qi) (c:Nat->Qg) (a:Qi->Int) (i:Nat):Int:=match l[(c i).edge.toNat]? with | some e=>(c i).forward * a e | none=>0
structure Qla (x x':Qw) (c:Nat->Qg) (p:Nat) (m:Int):Prop where
  n:x'.n=x.n
  l:x'.l=x.l
  arcs:x'.arcs=x.arcs
  flow:Qc4 x.l x'.flow
  lin:∀φ:Qi->Int,lin φ x.l x'.flow=lin φ x.l x.flow+m * psum (Qjh x.l c φ) p
theorem QBR {x:Qw} (hx:QdD x) {c:Nat->Qg} {p:Nat} (h:Qlt x mp w c p) {m:Int} (hm:1<=m) (C:∀i,i<p->m<=room x (c i)):
    Ok (Qcd x m (w 0) mp (w p)) (λr=>r.2=m/\Qla x r.1 c p m):=by
  unfold Qcd
  let g:(Qi->Int)->Nat->Int:=λb=>Qjh x.l c b
  let I:Nat->List Int->Prop:=λi f=>Qc4 x.l f/\(∀b,lin b x.l f=lin b x.l x.flow+m * psum (g b) i)/\∀j,i<=j->j<p->f[(c j).edge.toNat]?=x.flow[(c j).edge.toNat]?
  refine Ok.bind (P:=λr=>r.1=x.n/\r.2.1=x.l/\r.2.2.1=x.arcs/\I p r.2.2.2.1/\r.2.2.2.2=m) (Ok.loop (λk s=>∃i,i+k=p/\i<p/\s.1=w i/\s.2.1=x.n/\s.2.2.1=x.l/\s.2.2.2.1=x.arcs/\I i s.2.2.2.2.1/\s.2.2.2.2.2=m) p ⟨0,by omega,h.pos,rfl,rfl,rfl,rfl,⟨hx.flow,λb=>by simp[psum],λ_ _ _=>rfl⟩,rfl⟩ λk s Z=>?_) λr C=>Ok.mk ?_
  · obtain⟨i,h1,D,O,S,T,U,⟨E,K,M⟩,X⟩:=Z;obtain⟨v,n,l,ar,fl,a⟩:=s;dsimp only at O S T U E K M X ⊢;subst O;subst S;subst T;subst U;subst X;rw[h.look i D,ZQ];have ha:=h.arc i D;have F:=ha.e0;have d:=C i D;obtain⟨e,H,ho⟩:=ha.ex;obtain⟨y,hy,y0,y1,Y,hk,hf⟩:=QqS hx H;have e0:=Y.lo;have e1:=Y.hi;have z:fl[(c i).edge.toNat]?=some y:=by rw[M i (Zr _) D,hy]
    have a0:(c i).edge.toNat<fl.length:=(Ze.1 z).1;have a4:a<=1000:=Int.le_trans d (Qot hx ha).2.2;have o:e.Lo<=y+(c i).forward * a/\y+(c i).forward * a<=e.Hi/\i64.wrap (y+i64.wrap ((c i).forward * a))=y+(c i).forward * a:=by
      unfold room at d;rw[H,hy] at d;dsimp only at d;rcases ho with⟨q,_⟩ | ⟨q,_⟩
      · rw[q,Zc (by decide)] at d;rw[q,Int.one_mul,w64 (n:=a) (by omega) (by omega),w64 (by omega) (by omega)];exact⟨by omega,by omega,rfl⟩
      · rw[q,Zb (by decide)] at d;rw[q,show (-1:Int) * a=-a by omega,w64 (n:=-a) (by omega) (by omega),w64 (by omega) (by omega)];exact⟨by omega,by omega,rfl⟩
    refine Ok.bind (P:=λr=>r=(Qw.mk x.n x.l (fl.set (c i).edge.toNat (y+(c i).forward * a)) x.arcs,a)) ?_ λr C=>?_
    · unfold QdN;dsimp only;rw[QeR _ F,z];simp only[Za];rw[o.2.2];refine Ok.setAt F (by omega) (Ok.mk rfl)
    · subst C;dsimp only;rw[h.from' i D];have N:I (i+1) (fl.set (c i).edge.toNat (y+(c i).forward * a)):=by
        refine⟨⟨by rw[ZH];exact E.1,λk' e' y' A t=>?_⟩,λb=>?_,λj hj B=>?_⟩
        · rw[getElem?_set] at t;split at t
          · rename_i ek;subst ek;obtain rfl:=Zn t;rw[H] at A;obtain rfl:=Zn A;exact⟨o.1,o.2.1⟩
          · exact E.2 k' e' y' A t
        · rw[Qvr b x.l fl _ _ e y H z,K b];show _=_+a * (psum (g b) i+g b i);have:g b i=(c i).forward * b e:=by show Qjh x.l c b i=_;unfold Qjh;rw[H]
          rw[this,Int.mul_add,show y+(c i).forward * a - y=(c i).forward * a by omega,show b e * ((c i).forward * a)=a * ((c i).forward * b e) by rw[Int.mul_comm,Int.mul_comm ((c i).forward) a,Int.mul_assoc]];omega
        · rw[getElem?_set_ne,M j (by omega) B];intro e';have:=h.edge i j (by omega) B;have:=(h.arc j B).e0;omega
      by_cases hp:i+1=p
      · rw[hp,Zc (by simp)];rw[hp] at N;exact Ok.mk ⟨rfl,rfl,rfl,N,rfl⟩
      · have hne:=h.stop (i+1) (by omega) (by omega);rw[Zb (by simpa using hne)];exact Ok.mk ⟨k - 1,by omega,i+1,by omega,by omega,rfl,rfl,rfl,rfl,N,rfl⟩
  · obtain⟨a1,a2,a3,⟨E,K,_⟩,a5⟩:=C;exact⟨a5,a1,a2,a3,E,K⟩
theorem Qvt {x:Qw} (hx:QdD x) {c:Nat->Qg} {p:Nat} (h:Qlt x mp w c p) (hm:1<=most):
    Ok (Qdg x mp (w p) (w 0) most) (λr=>1<=r.1/\r.1<=most/\Qla x r.2 c p r.1):=by
  unfold Qdg;refine (QBQ hx h hm).bind λr a=>?_;obtain⟨d,b,e,f⟩:=a;obtain⟨g,x'⟩:=r;dsimp only at d b e f ⊢;subst d;refine (QBR hx h b f).bind λr a=>?_;obtain⟨g1,g2⟩:=a;obtain⟨x',m⟩:=r;dsimp only at g1 g2 ⊢;subst g1;exact Ok.mk ⟨b,e,g2⟩
def lv (L:List Int) (v:Int):Int:=(L[v.toNat]?).getD 0
theorem Qlb {L:List Int} {y:Int} (h0:0<=v) (h:v<L.length) (u:Int) (hu:0<=u):lv (L.set v.toNat y) u=if u=v then y else lv L u:=by
  unfold lv;rw[getElem?_set];by_cases e:u=v
  · subst e;rw[Zc rfl,Zc (by omega),Zc rfl];rfl
  · rw[Zb (by omega),Zb e]
theorem Ok.lv {L:List Int} (h0:0<=v) (h:v<L.length) {f:Int->Option β} (k:Ok (f (Proofs.YtmhcoofnnmiejaaGreatDoor.lv L v)) Q):Ok ((idx L v).bind f) Q:=by
  have a:v.toNat<L.length:=by omega
  rw[QeR _ h0,Zd a];unfold Proofs.YtmhcoofnnmiejaaGreatDoor.lv at k;rw[Zd a] at k;exact k
theorem Qzu {L:List Int} (h0:0<=v) (h:v<L.length):idx L v=some (lv L v):=by
  have a:v.toNat<L.length:=by omega
  rw[QeR _ h0];unfold lv;rw[Zd a];rfl
theorem Qey {x:Qw} (hx:QdD x) {a:Qg} (ha:a∈x.arcs):Qks x.l a/\0<=a.from'/\a.from'<x.n/\0<=a.to/\a.to<x.n/\a.from'≠a.to/\-1000<=a.cost/\a.cost<=1000:=by
  have h:=hx.arcs a ha;obtain⟨e,f,g⟩:=h.ex;have j:=hx.edges e (Zl f);obtain⟨l,m,n,o,_,_,_,p,q,b⟩:=j;refine⟨h,?_⟩;rcases g with⟨_,e1,e2,d⟩ | ⟨_,e1,e2,d⟩<;>rw[e1,e2,d]<;>refine⟨by omega,by omega,by omega,by omega,?_,by omega,by omega⟩
  · exact b
  · exact λe=>b e.symm
structure LI (x:Qw) (k t:Int) (L:List Int) (m:List (Int×Qg)) (τ ρ:Int->Int):Prop where
  len:(L.length:Int)=x.n
  bd:∀v,0<=v->v<x.n->-1000 * t<=lv L v/\lv L v<=0
  t0:0<=t
  ent:∀v a,mget m v=some a->a∈x.arcs/\a.to=v/\1<=room x a/\1<=τ v/\lv L a.from'+a.cost<=lv L v/\(τ v<τ a.from'->lv L a.from'+a.cost<lv L v)/\ρ v - 1<=ρ a.from'
  has:∀v,0<=ρ v->∃a,mget m v=some a
  one:∀v w,τ v=τ w->1<=τ v->v=w
  le:∀v,τ v<=t
  rk:∀v,ρ v<=k
  old:∀a∈x.arcs,1<=room x a->ρ a.from'<k - 1->lv L a.to<=lv L a.from'+a.cost
theorem LI.put {x:Qw} (hx:QdD x) {k t:Int} {L:List Int} {m:List (Int×Qg)} (h:LI x k t L m τ ρ) {a:Qg} (ha:a∈x.arcs) (s:1<=room x a) (hl:lv L a.from'+a.cost<lv L a.to):
    LI x k (t+1) (L.set a.to.toNat (lv L a.from'+a.cost)) (mset m a.to a) (λv=>if v=a.to then t+1 else τ v) (λv=>if v=a.to then k else ρ v):=by
  obtain⟨hA,f0,f1,t0,t1,hne,K,M⟩:=Qey hx ha;have hlen:=h.len;have g:∀u,0<=u->lv (L.set a.to.toNat (lv L a.from'+a.cost)) u=if u=a.to then lv L a.from'+a.cost else lv L u:=λu hu=>Qlb t0 (by omega) u hu;have l:∀u,0<=u->lv (L.set a.to.toNat (lv L a.from'+a.cost)) u<=lv L u:=λu hu=>by
    rw[g u hu];split
    · rename_i e;rw[e];omega
    · omega
  refine⟨by rw[ZH];exact hlen,λv h0 z=>?_,by have:=h.t0;omega,λv b hb=>?_,λv n=>?_,λv w d n=>?_,λv=>?_,λv=>?_,λb hb r j=>?_⟩
  · rw[g v h0];have N:=h.bd v h0 z;have O:=h.bd a.from' f0 f1;have P:=h.bd a.to t0 t1;split<;>omega
  · rw[Qb3] at hb;by_cases e:v=a.to
    · rw[Zc e] at hb;obtain rfl:=Zn hb;subst e;rw[g _ f0,g _ t0];rw[Zc rfl,Zb hne];simp only[if_true,Zb hne];have:=h.le a.from';have h0:=h.t0;refine⟨ha,trivial,s,by omega,Zx _,λp=>absurd p (by omega),?_⟩;by_cases A:ρ a.from'<k - 1
      · have:=h.old a ha s A;omega
      · omega
    · rw[Zb e] at hb;obtain⟨g1,g2,g3,B,C,D,E⟩:=h.ent v b hb;obtain⟨S,f,F,o,H,y,_,_⟩:=Qey hx g1;have v0:0<=v:=by omega
      have e1:=l b.from' f;have e2:=g v v0;rw[Zb e] at e2;have q:=g b.from' f;have I:=h.rk v;simp only[Zb e];refine⟨g1,g2,g3,B,by omega,λp=>?_,?_⟩
      · by_cases eb:b.from'=a.to
        · rw[Zc eb] at q;rw[eb] at C;omega
        · rw[Zb eb] at p q;have:=D p;omega
      · by_cases eb:b.from'=a.to
        · rw[Zc eb];omega
        · rw[Zb eb];exact E
  · rw[Qb3];by_cases e:v=a.to
    · rw[Zc e];exact⟨_,rfl⟩
    · rw[Zb e];rw[Zb e] at n;exact h.has v n
  · have T:=h.le v;have U:=h.le w;by_cases e:v=a.to<;>by_cases e2:w=a.to
    · rw[e,e2]
    · rw[Zc e,Zb e2] at d;omega
    · rw[Zb e,Zc e2] at d;omega
    · rw[Zb e,Zb e2] at d;rw[Zb e] at n;exact h.one v w d n
  · have:=h.le v;split<;>omega
  · have:=h.rk v;split<;>omega
  · obtain⟨_,f,_,o,_⟩:=Qey hx hb;have e1:=l b.to o;have q:=g b.from' f;by_cases eb:b.from'=a.to
    · rw[Zc eb] at j;omega
    · rw[Zb eb] at j q;have:=h.old b hb r j;omega
def LQ (x:Qw) (k:Int) (L:List Int) (ρ:Int->Int) (i:Nat):Prop:=∀j a,j<i->x.arcs[j]?=some a->1<=room x a->ρ a.from'<k->lv L a.to<=lv L a.from'+a.cost
def LR (x:Qw) (k:Int) (a:Int) (L:List Int) (m:Mp Qg) (t1:Int) (i:Nat):Prop:=∃t b τ ρ,m=some b/\LI x k t L b τ ρ/\LQ x k L ρ i/\t<=t1+i/\-1<=a/\(a<0->∀v,ρ v<k)/\(0<=a->a<x.n/\ρ a=k)
theorem QBS {x:Qw} (hx:QdD x) {k t:Int} {L:List Int} {m:List (Int×Qg)} (h:LI x k t L m τ ρ) (hk:∀v,ρ v<k) (ht:t<=1000000):
    Ok (Qr (λ(d:Int×Int×List Int×Mp Qg)=>((if (decide (d.1<((x).arcs.length:Int)))=true then (idx (x).arcs d.1).bind λt26=>(QbW x t26).bind λt30=>(opt ((decide (t30>(0:Int)))==true) (idx d.2.2.1 (t26).from') default).bind λt36=>(opt ((decide (t30>(0:Int)))==true) (idx d.2.2.1 (t26).to) default).bind λt44=>((if ((decide (t30>(0:Int)))&&(decide ((i64.wrap (t36+(t26).cost))<t44)))=true then (idx d.2.2.1 (t26).from').bind λt54=>(setAt d.2.2.1 (t26).to (i64.wrap (t54+(t26).cost))).bind λB=>(mput d.2.2.2 (t26).to t26).bind λC=>(some ((t26).to,B,C)) else (some (d.2.1,d.2.2.1,d.2.2.2)))).bind λ(n:Int×List Int×Mp Qg)=>(some (.inl ((i64.wrap (d.1+(1:Int))),n.1,n.2.1,n.2.2))) else (some (.inr (d.2.1,d.2.2.1,d.2.2.2)))):Option ((Int×Int×List Int×Mp Qg)⊕((Int×List Int×Mp Qg))))) ((0:Int),(-1:Int),L,some m))
      (λr=>LR x k r.1 r.2.1 r.2.2 t x.arcs.length):=by
  have a0:=hx.alen;refine Ok.loop (λg s=>∃i:Nat,s.1=i/\i+g=x.arcs.length/\LR x k s.2.1 s.2.2.1 s.2.2.2 t i) x.arcs.length ⟨0,rfl,by omega,t,m,τ,ρ,rfl,h,λj a M=>absurd M (by omega),by omega,Zx _,λ_=>hk,λD=>absurd (show (0:Int)<=-1 from D) (by decide)⟩ λg s hs=>?_;obtain⟨i,Z,h2,N,I,E,F,h3,y,K,h6,O,S,T⟩:=hs;obtain⟨si,H,z,mm⟩:=s;dsimp only at Z h3 y K O S T ⊢;subst Z;subst h3;refine Ok.ite (λf=>?_) (λf=>?_)
  · have f:(i:Int)<x.arcs.length:=Zt f;refine Ok.idx (by omega) f λa ha U=>?_;obtain⟨hA,f0,f1,t0,t1,hne,c0,c1⟩:=Qey hx ha;have hlen:=y.len;have b1:=y.bd a.from' f0 f1;have b2:=y.bd a.to t0 t1;have hi:x.arcs[i]?=some a:=by simpa using U
    refine Ok.room hx hA λr0 r1=>?_;have q:(1<=room x a->¬(lv z a.from'+a.cost<lv z a.to))->LR x k H z (some I) t (i+1):=λhn=>
      ⟨N,I,E,F,rfl,y,λj b M hb o l=>by
        by_cases e:j=i
        · subst e;rw[hi] at hb;obtain rfl:=Zn hb;have:=hn o;omega
        · exact K j b (by omega) hb o l,by omega,O,S,T⟩
    by_cases hr:1<=room x a
    · have A:room x a>0:=by omega
      simp only[A,decide_true,beq_self_eq_true,Qtj,Bool.true_and];refine Ok.lv f0 (by omega) (Ok.lv t0 (by omega) ?_);rw[w64 (by omega) (by omega)];refine Ok.bind (P:=λp=>LR x k p.1 p.2.1 p.2.2 t (i+1)) (Ok.ite (λhu=>?_) (λhu=>?_)) λp hp=>Ok.mk ⟨g - 1,by omega,i+1,by rw[w64 (by omega) (by omega)];rfl,by omega,hp⟩
      · have hu:lv z a.from'+a.cost<lv z a.to:=Zt hu;refine Ok.lv f0 (by omega) ?_;rw[w64 (by omega) (by omega)];refine Ok.setAt t0 (by omega) ?_;refine Ok.mk ⟨N+1,mset I a.to a,_,_,rfl,y.put hx ha hr hu,λj b M hb o l=>?_,by omega,by omega,λD=>absurd D (by omega),λ_=>⟨t1,by simp⟩⟩;obtain⟨_,X,_,Y,_⟩:=Qey hx (Zl hb);dsimp only at l ⊢;rw[Qlb t0 (by omega) _ X,Qlb t0 (by omega) _ Y];by_cases eb:b.from'=a.to
        · rw[Zc eb] at l;omega
        · rw[Zb eb] at l;rw[Zb eb];by_cases e:j=i
          · subst e;rw[hi] at hb;obtain rfl:=Zn hb;rw[Zc rfl];exact Zx _
          · have:=K j b (by omega) hb o l;split
            · rename_i et;rw[et] at this;omega
            · exact this
      · have hu:¬(lv z a.from'+a.cost<lv z a.to):=ZA hu;exact Ok.mk (q λ_=>hu)
    · have A:¬room x a>0:=by omega
      simp only[A,decide_false,show ((false==true)=false) from rfl,QyT,Bool.false_and,Za];rw[Zb (by decide)];exact Ok.mk ⟨g - 1,by omega,i+1,by rw[w64 (by omega) (by omega)];rfl,by omega,q λD=>absurd D hr⟩
  · have f:¬(i:Int)<x.arcs.length:=ZA f;have:i=x.arcs.length:=by omega
    subst this;exact Ok.mk ⟨N,I,E,F,rfl,y,K,h6,O,S,T⟩
theorem Qzv (P:Nat->Prop):∀n,P n->∃m,m<=n/\P m/\∀i,i<m->¬P i:=λn=>by
  induction n using Nat.strongRecOn with
  | _ n b=>
    intro h;by_cases a:∃i,i<n/\P i
    · obtain⟨i,d,e⟩:=a;obtain⟨m,g1,g2,g3⟩:=b i d e;exact⟨m,by omega,g2,g3⟩
    · exact⟨n,Zr _,h,λi hi hp=>a ⟨i,hi,hp⟩⟩
theorem QfF {g:Nat->Int}:∀{n:Nat},(∀i,i<n->g i=g' i)->psum g n=psum g' n
  | 0,_=>rfl
  | n+1,h=>by show psum g n+g n=psum g' n+g' n;rw[QfF λi hi=>h i (by omega),h n (by omega)]
def zarc:Qg:=Qg.mk (0:Int) (0:Int) (0:Int) (0:Int) (0:Int)
def back (m:List (Int×Qg)) (v:Int):Nat->Int
  | 0=>v
  | i+1=>((mget m (back m v i)).getD zarc).from'
theorem QhO (m:List (Int×Qg)) (v:Int) (i:Nat):∀j,back m v (i+j)=back m (back m v i) j
  | 0=>rfl
  | j+1=>by show ((mget m (back m v (i+j))).getD zarc).from'=((mget m (back m (back m v i) j)).getD zarc).from';rw[QhO m v i j]
theorem Qvu {x:Qw} {k t:Int} {L:List Int} {m:List (Int×Qg)} (h:LI x k t L m τ ρ) (b:ρ v=k):∀i:Nat,(i:Int)<=k->k - i<=ρ (back m v i)
  | 0,_=>by show k - 0<=ρ v;omega
  | i+1,hi=>by have d:=Qvu h b i (by omega);obtain⟨a,ha⟩:=h.has (back m v i) (by omega);have:=(h.ent _ _ ha).2.2.2.2.2.2;show k - ((i+1:Nat):Int)<=ρ ((mget m (back m v i)).getD zarc).from';rw[ha,ZQ];omega
def Qpa (x:Qw) (m:Mp Qg) (v:Int):Prop:=∃w c p,Qlt x m w c p/\w 0=v/\w p=v/\psum (λi=>(c i).cost) p<=-1
theorem Qry {x:Qw} (hx:QdD x) {k t:Int} {L:List Int} {m:List (Int×Qg)} (h:LI x k t L m τ ρ) (d:∀i,∃a,mget m (back m v i)=some a):
    ∀i:Nat,psum (λi=>((mget m (back m v i)).getD zarc).cost) i<=lv L v - lv L (back m v i)/\(psum (λi=>((mget m (back m v i)).getD zarc).cost) i<lv L v - lv L (back m v i)\/τ (back m v i)+i<=τ v)
  | 0=>by
    refine⟨?_,.inr ?_⟩
    · show (0:Int)<=lv L v - lv L v;omega
    · show τ v+((0:Nat):Int)<=τ v;omega
  | i+1=>by
    obtain⟨l,b⟩:=Qry hx h d i;obtain⟨a,ha⟩:=d i;obtain⟨g1,g2,g3,f,n,g,o⟩:=h.ent _ _ ha;have hne:=(Qey hx g1).2.2.2.2.2.1;have e1:back m v (i+1)=a.from':=by show ((mget m (back m v i)).getD zarc).from'=_;rw[ha];rfl
    have e2:psum (λi=>((mget m (back m v i)).getD zarc).cost) (i+1)=psum (λi=>((mget m (back m v i)).getD zarc).cost) i+a.cost:=by show _+((mget m (back m v i)).getD zarc).cost=_;rw[ha];rfl
    rw[e1,e2];refine⟨by omega,?_⟩;by_cases j:τ (back m v i)<τ a.from'
    · have:=g j;exact .inl (by omega)
    · rcases b with b | b
      · exact .inl (by omega)
      · have p:τ (back m v i)≠τ a.from':=λe=>hne ((h.one _ _ e f).symm.trans g2.symm);exact .inr (by push_cast;omega)
theorem QBT {x:Qw} (hx:QdD x) {t:Int} {L:List Int} {m:List (Int×Qg)} (h:LI x x.n t L m τ ρ) (h0:0<=v) (h1:v<x.n) (hv:ρ v=x.n):
    Qpa x (some m) (back m v x.n.toNat):=by
  have hn:=hx.n0;have hb:=Qvu h hv;have A:∀i:Nat,(i:Int)<=x.n->∃a,mget m (back m v i)=some a:=λi hi=>h.has _ (by have:=hb i hi;omega);have C:∀i:Nat,(i:Int)<=x.n->0<=back m v i/\back m v i<x.n:=λi hi=>by
    cases i with
    | zero=>exact⟨h0,h1⟩
    | succ i=>
      obtain⟨a,ha⟩:=A i (by omega);have e1:back m v (i+1)=a.from':=by show ((mget m (back m v i)).getD zarc).from'=_;rw[ha];rfl
      obtain⟨_,E,r,_⟩:=Qey hx (h.ent _ _ ha).1;rw[e1];exact⟨E,r⟩
  obtain⟨a,b,a0,a4,he⟩:=Qzt x.n.toNat (λi=>(back m v i).toNat) (λi hi=>by have:=C i (by omega);omega);have he:back m v a=back m v b:=by have:=C a (by omega);have:=C b (by omega);omega
  -- from a on the way repeats
  have B:∀j,back m v (b+j)=back m v (a+j):=λj=>by rw[QhO,QhO,he]
  have F:∀j,∃i,i<=x.n.toNat/\back m v (a+j)=back m v i:=λj=>by
    induction j using Nat.strongRecOn with
    | _ j ih=>
      by_cases O:a+j<=b
      · exact⟨a+j,by omega,rfl⟩
      · obtain⟨i,S,T⟩:=ih (j - (b - a)) (by omega);refine⟨i,S,?_⟩;rw[<-T,<-B (j - (b - a))];congr 1;omega
  let n:=x.n.toNat
  let u:=back m v n
  have hu:∀i,back m u i=back m v (n+i):=λi=>(QhO m v n i).symm;have H:∀i,∃a,mget m (back m u i)=some a:=λi=>by
    rw[hu];obtain⟨q,E,r⟩:=F (n - a+i);have:a+(n - a+i)=n+i:=by omega
    rw[this] at r;rw[r];exact A q (by omega)
  have I:back m u (b - a)=u:=by
    rw[hu];have:=B (n - a);have e1:b+(n - a)=n+(b - a):=by omega
    have e2:a+(n - a)=n:=by omega
    rw[e1,e2] at this;exact this
  obtain⟨p,_,⟨U,l⟩,o⟩:=Qzv (λp=>1<=p/\back m u p=u) (b - a) ⟨by omega,I⟩;have o:∀i,0<i->i<p->back m u i≠u:=λi X Y e=>o i Y ⟨X,e⟩;have d:∀i j,i<j->j<p->back m u i≠back m u j:=λi j K z e=>by
    refine o (i+(p - j)) (by omega) (by omega) ?_;rw[QhO,e,<-QhO];have:j+(p - j)=p:=by omega
    rw[this,l]
  let c:=λi=>(mget m (back m u i)).getD zarc
  have hc:∀i,mget m (back m u i)=some (c i):=λi=>by obtain⟨a,ha⟩:=H i;show _=some ((mget m (back m u i)).getD zarc);rw[ha];rfl
  have g:=λi=>h.ent _ _ (hc i);have f:psum (λi=>(c i).cost) p<=-1:=by obtain⟨s1,s2⟩:=Qry hx h H p;rw[l] at s1 s2;show psum (λi=>((mget m (back m u i)).getD zarc).cost) p<=-1;omega
  refine⟨back m u,c,p,⟨U,λi _=>hc i,λi _=>(Qey hx (g i).1).1,λi _=>(g i).2.1,λi _=>rfl,λi _=>(g i).2.2.1,λi X Y=>by rw[l];exact o i X Y,λi j K z ee=>?_⟩,rfl,l,f⟩;have fi:(c i).from'=back m u (i+1):=rfl;have fj:(c j).from'=back m u (j+1):=rfl;have ti:=(g i).2.1;have P:=(g j).2.1;obtain⟨e,M,oi⟩:=(Qey hx (g i).1).1.ex;obtain⟨e',Z,oj⟩:=(Qey hx (g j).1).1.ex;rw[ee,Z] at M;obtain rfl:=Zn M;have hd:=d i j K z;rcases oi with⟨_,a1,a2,a3⟩ | ⟨_,a1,a2,a3⟩<;>rcases oj with⟨_,b1,N,b3⟩ | ⟨_,b1,N,b3⟩
  · exact hd (by rw[<-ti,<-P,a2,N])
  · have E:back m u (i+1)=back m u j:=by rw[<-fi,<-P,a1,N]
    have r:back m u i=back m u (j+1):=by rw[<-ti,<-fj,a2,b1]
    have O:j=i+1:=by
      by_cases s:i+1<j
      · exact absurd E (d (i+1) j s z)
      · omega
    have y:j+1=p:=by
      by_cases s:j+1<p
      · exact absurd r (d i (j+1) (by omega) s)
      · omega
    have D:i=0:=by
      by_cases s:0<i
      · rw[y,l] at r;exact absurd r (o i s (by omega))
      · omega
    subst D;have hp:p=2:=by omega
    subst hp;subst O;have:psum (λi=>(c i).cost) 2=(c 0).cost+(c 1).cost:=by simp[psum]
    rw[this,a3] at f;rw[b3] at f;omega
  · have E:back m u (i+1)=back m u j:=by rw[<-fi,<-P,a1,N]
    have r:back m u i=back m u (j+1):=by rw[<-ti,<-fj,a2,b1]
    have O:j=i+1:=by
      by_cases s:i+1<j
      · exact absurd E (d (i+1) j s z)
      · omega
    have y:j+1=p:=by
      by_cases s:j+1<p
      · exact absurd r (d i (j+1) (by omega) s)
      · omega
    have D:i=0:=by
      by_cases s:0<i
      · rw[y,l] at r;exact absurd r (o i s (by omega))
      · omega
    subst D;have hp:p=2:=by omega
    subst hp;subst O;have:psum (λi=>(c i).cost) 2=(c 0).cost+(c 1).cost:=by simp[psum]
    rw[this,a3] at f;rw[b3] at f;omega
  · exact hd (by rw[<-ti,<-P,a2,N])
def QtB (x:Qw) (L:List Int):Prop:=(L.length:Int)=x.n/\(∀v,0<=v->v<x.n->-100000000<=lv L v/\lv L v<=0)/\∀a∈x.arcs,1<=room x a->lv L a.to<=lv L a.from'+a.cost
theorem Qzw {x:Qw} (hx:QdD x):Ok (Qda x) (λr=>(r.2.1=none/\QtB x r.1)\/(∃m,r.2.1=some m/\Qpa x (some m) r.2.2)):=by
  have o:=hx.n0;have I:=hx.n1;have K:=hx.alen;unfold Qda;refine Ok.mk' o (by omega) ?_;refine Ok.bind (P:=λr=>(r.2.1=none/\QtB x r.2.2)\/(∃m,r.2.1=some m/\Qpa x (some m) r.1)) (Ok.loop (λg s=>∃k:Nat,s.1=k/\k+g=x.n.toNat/\∃t m τ ρ,s.2.2=some m/\LI x k t s.2.1 m τ ρ/\(∀v,ρ v<k)/\t<=512 * k) x.n.toNat ⟨0,rfl,by omega,0,[],λ_=>0,λ_=>-1,rfl,⟨by simp;omega,λv h0 p=>?_,Zx _,λv a h=>by simp[mget] at h,λv h=>absurd h (by decide),λv w _ h=>absurd h (by decide),λv=>Zx _,λv=>by decide,λa _ _ h=>absurd h (by decide)⟩,λv=>show (-1:Int)<0 by decide,by decide⟩ λg s q=>?_) λr d=>Ok.mk d
  · have:lv (replicate x.n.toNat 0) v=0:=by
      unfold lv;rw[getElem?_replicate];split<;>rfl
    dsimp only;rw[this];exact⟨by omega,by omega⟩
  · obtain⟨k,p,Y,t,m,τ,ρ,A,B,M,Z⟩:=q;obtain⟨sk,L,mm⟩:=s;dsimp only at p A B ⊢;subst p;subst A;refine (QBS hx B M (by omega)).bind λr d=>?_;obtain⟨N,n,y,z,g1,g2,g3,g4,O,C,D⟩:=d;obtain⟨b,L',S⟩:=r;dsimp only at g1 g2 g3 O C D ⊢;subst g1;refine Ok.ite (λhl=>?_) (λhl=>?_)
    · have hl:b<0:=Zt hl;refine Ok.mk (.inl ⟨rfl,g2.len,λv v0 v1=>?_,λa ha d=>?_⟩)
      · have:=g2.bd v v0 v1;dsimp only;omega
      · obtain⟨j,f,e⟩:=mem_iff_getElem.1 ha;exact g3 j a f (by rw[Zd f,e]) d (C hl _)
    · have hl:¬b<0:=ZA hl;obtain⟨T,E⟩:=D (by omega);refine Ok.ite (λl=>?_) (λl=>?_)
      · have l:(k:Int)<x.n:=Zt l;refine Ok.mk ⟨g - 1,by omega,k+1,?_,by omega,N,n,y,z,rfl,⟨g2.len,g2.bd,g2.t0,g2.ent,g2.has,g2.one,g2.le,λv=>?_,λa ha d U=>?_⟩,λv=>?_,by omega⟩
        · rw[w64 (by omega) (by omega)];rfl
        · have:=g2.rk v;omega
        · obtain⟨j,f,e⟩:=mem_iff_getElem.1 ha;exact g3 j a f (by rw[Zd f,e]) d (by omega)
        · have:=g2.rk v;omega
      · have l:¬(k:Int)<x.n:=ZA l;have X:(k:Int)=x.n:=by omega
        rw[X] at g2 E;refine Ok.bind (P:=λr=>r=back n b x.n.toNat) (Ok.loop (λg s=>∃i:Nat,s.1=i/\i+g=x.n.toNat/\s.2=back n b i) x.n.toNat ⟨0,rfl,by omega,rfl⟩ λg s q=>?_) λr d=>Ok.mk (.inr ⟨n,rfl,?_⟩)
        · obtain⟨i,F,i2,H⟩:=q;obtain⟨si,v⟩:=s;dsimp only at F H ⊢;subst F;subst H;refine Ok.ite (λhi=>?_) (λhi=>?_)
          · have hi:(i:Int)<x.n:=Zt hi;exact Ok.mk ⟨g - 1,by omega,i+1,by rw[w64 (by omega) (by omega)];rfl,by omega,rfl⟩
          · have hi:¬(i:Int)<x.n:=ZA hi;have:i=x.n.toNat:=by omega
            subst this;exact Ok.mk rfl
        · subst d;exact QBT hx g2 (by omega) T E
def one (p:Prop) [Decidable p]:Int:=if p then 1 else 0
theorem Qzx (p:Prop) [Decidable p]:0<=one p/\one p<=1:=by unfold one;split<;>omega
theorem Qzy (a v:Int):one (a=v)=if v=a then 1 else 0:=by unfold one;split<;>split<;>omega
def ex (v:Int) (e:Qi):Int:=one (e.To=v) - one (e.From=v)
theorem QqT {g:Nat->Int}:∀{n:Nat},(∀i,i<n->g i<=g' i)->psum g n<=psum g' n
  | 0,_=>Zx _
  | n+1,h=>by show psum g n+g n<=psum g' n+g' n;have:=QqT (n:=n) λi hi=>h i (by omega);have:=h n (by omega);omega
theorem Qmd {g:Nat->Int}:∀{n:Nat} (k:Nat),(∀i,i<n->g i<=g' i)->k<n->g k<g' k->psum g n<psum g' n
  | 0,k,_,hk,_=>absurd hk (by omega)
  | n+1,k,h,hk,hl=>by
    show psum g n+g n<psum g' n+g' n;by_cases e:k=n
    · subst e;have:=QqT (n:=k) λi hi=>h i (by omega);omega
    · have:=Qmd (n:=n) k (λi hi=>h i (by omega)) (by omega) hl;have:=h n (by omega);omega
theorem Qj2 {g:Nat->Int}:∀{n:Nat},(∀i,i<n->g i=0)->psum g n=0
  | 0,_=>rfl
  | n+1,h=>by show psum g n+g n=0;rw[Qj2 λi hi=>h i (by omega),h n (by omega)];rfl
theorem QlM {g:Nat->Int}:∀{n:Nat},(∀i,i<n->0<=g i)->0<=psum g n
  | 0,_=>Zx _
  | n+1,h=>by show 0<=psum g n+g n;have:=QlM (n:=n) λi hi=>h i (by omega);have:=h n (by omega);omega
theorem Qpb (r:Int->Int):∀(n:Nat) (v:Int),psum (λi=>r i * one (v=(i:Int))) n=if 0<=v/\v<n then r v else 0
  | 0,v=>by show (0:Int)=_;rw[Zb (by omega)]
  | n+1,v=>by
    show psum (λi=>r i * one (v=(i:Int))) n+r n * one (v=(n:Int))=_;rw[Qpb r n v];unfold one;by_cases e:v=(n:Int)
    · subst e;rw[Zb (by omega),Zc rfl,Zc (by omega)];omega
    · rw[Zb e];by_cases h:0<=v/\v<(n:Int)
      · rw[Zc h,Zc (by omega)];omega
      · rw[Zb h,Zb (by omega)];omega
theorem Qpc {g:Nat->Int}:∀{n:Nat},psum (λi=>g i - h i) n=psum g n - psum h n
  | 0=>rfl
  | n+1=>by show psum (λi=>g i - h i) n+(g n - h n)=psum g n+g n - (psum h n+ h n);rw[Qpc];omega
theorem Qvv (r:Int->Int) {n:Nat} {e:Qi} (h:QnR n e):psum (λi=>r i * ex i e) n=r e.To - r e.From:=by
  have:psum (λi=>r i * ex i e) n=psum (λi=>r i * one (e.To=(i:Int)) - r i * one (e.From=(i:Int))) n:=QfF λi _=>by unfold ex;rw[Int.mul_sub]
  rw[this,Qpc,Qpb,Qpb,Zc ⟨h.t0,h.t1⟩,Zc ⟨h.f0,h.f1⟩]
theorem QnS {a b:Qi->Int}:∀{l:List Qi} {f:List Int},(∀e∈l,a e=b e)->lin a l f=lin b l f
  | [],_,_=>rfl
  | _::_,[],_=>rfl
  | e::l,y::f,h=>by show a e * y+lin a l f=b e * y+lin b l f;rw[h e (by simp),QnS λe d=>h e (by simp[d])]
theorem Qpd:∀{l:List Qi} {f:List Int},lin (λ_=>0) l f=0
  | [],_=>rfl
  | _::_,[]=>rfl
  | e::l,y::f=>by show 0 * y+lin (λ_=>0) l f=0;rw[Qpd];omega
theorem Qvw (a b:Qi->Int):∀(l:List Qi) (f:List Int),lin (λe=>a e+b e) l f=lin a l f+lin b l f
  | [],_=>rfl
  | _::_,[]=>rfl
  | e::l,y::f=>by show (a e+b e) * y+lin (λe=>a e+b e) l f=a e * y+lin a l f+(b e * y+lin b l f);rw[Qvw a b l f,Int.add_mul];omega
theorem Qvx (c:Int) (a:Qi->Int):∀(l:List Qi) (f:List Int),lin (λe=>c * a e) l f=c * lin a l f
  | [],_=>by show (0:Int)=c * 0;omega
  | _::_,[]=>by show (0:Int)=c * 0;omega
  | e::l,y::f=>by show c * a e * y+lin (λe=>c * a e) l f=c * (a e * y+lin a l f);rw[Qvx c a l f,Int.mul_add,Int.mul_assoc]
theorem Qpe (r:Nat->Int) (a:Nat->Qi->Int) (l:List Qi) (f:List Int):∀n,psum (λi=>r i * lin (a i) l f) n=lin (λe=>psum (λi=>r i * a i e) n) l f
  | 0=>Qpd.symm
  | n+1=>by show psum (λi=>r i * lin (a i) l f) n+r n * lin (a n) l f=lin (λe=>psum (λi=>r i * a i e) n+r n * a n e) l f;rw[Qvw,Qpe r a l f n,Qvx]
theorem Qzz (d:Qi->Int):∀{l:List Qi} {f g:List Int},f.length=l.length->g.length=l.length->(∀(k:Nat) e y z,l[k]?=some e->f[k]?=some y->g[k]?=some z->d e * y<=d e * z)->lin d l f<=lin d l g
  | [],_,_,_,_,_=>by simp[lin]
  | e::l,[],_,h,_,_=>by simp at h
  | e::l,_::_,[],_,h,_=>by simp at h
  | e::l,y::f,z::g,h1,h2,h=>by show d e * y+lin d l f<=d e * z+lin d l g;have a:=h 0 e y z rfl rfl rfl;have b:=Qzz d (l:=l) (f:=f) (g:=g) (by simpa using h1) (by simpa using h2) λk e y z j m n=>h (k+1) e y z (by simpa using j) (by simpa using m) (by simpa using n);omega
theorem QjB (d:Qi->Int):∀{l:List Qi} {f:List Int} {k:Nat} {e:Qi} {y:Int},l[k]?=some e->f[k]?=some y->lin d (l.take (k+1)) (f.take (k+1))=lin d (l.take k) (f.take k)+d e * y
  | [],_,_,_,_,h,_=>by simp at h
  | _::_,[],_,_,_,_,h=>by simp at h
  | a::l,b::f,0,e,y,h1,h2=>by simp at h1 h2;subst h1;subst h2;simp[lin]
  | a::l,b::f,k+1,e,y,h1,h2=>by simp only[getElem?_cons_succ] at h1 h2;have:=QjB d h1 h2;simp only[take_succ_cons,lin];rw[this];omega
theorem QzA {x:Qw} (hx:QdD x):Ok (Qc9 x) (λE=>(E.length:Int)=x.n/\∀v,0<=v->v<x.n->lv E v=lin (ex v) x.l x.flow/\-1000000<=lv E v/\lv E v<=1000000):=by
  have n:=hx.n0;have z:=hx.n1;have hl:=hx.l1;unfold Qc9;refine Ok.mk' n (by omega) ?_;refine Ok.bind (P:=λE=>(E.length:Int)=x.n/\∀v,0<=v->v<x.n->lv E v=lin (ex v) x.l x.flow/\-1000000<=lv E v/\lv E v<=1000000) (Ok.loop (λg s=>∃k:Nat,s.1=k/\k+g=x.l.length/\(s.2.length:Int)=x.n/\∀v,0<=v->v<x.n->lv s.2 v=lin (ex v) (x.l.take k) (x.flow.take k)/\-1000 * k<=lv s.2 v/\lv s.2 v<=1000 * k) x.l.length ⟨0,rfl,by omega,by simp;omega,λv v0 v1=>?_⟩ λg s A=>?_) λr B=>Ok.mk B
  · have:lv (replicate x.n.toNat 0) v=0:=by
      unfold lv;rw[getElem?_replicate];split<;>rfl
    dsimp only;rw[this];exact⟨rfl,by omega,by omega⟩
  · obtain⟨k,p,F,t,f⟩:=A;obtain⟨H,E⟩:=s;dsimp only at p t f ⊢;subst p;refine Ok.ite (λd=>?_) (λd=>?_)
    · have d:(k:Int)<x.l.length:=Zt d;refine Ok.idx (by omega) d λe I a=>?_;have a:x.l[k]?=some e:=by simpa using a
      obtain⟨y,hy,K,M,b,_,hf⟩:=QqS hx a;have t0:=b.t0;have t1:=b.t1;have f0:=b.f0;have f1:=b.f1;have e0:=b.lo;have e1:=b.hi;have hne:=b.ne;refine Ok.lv t0 (by omega) ?_;have o:idx x.flow (k:Int)=some y:=by rw[Qhd,hy]
      rw[o];simp only[Za];have N:=(f e.To t0 t1).2;have O:=(f e.From f0 f1).2;rw[w64 (by omega) (by omega)];refine Ok.setAt t0 (by omega) ?_;refine Ok.lv f0 (by rw[ZH];omega) ?_;rw[Qlb t0 (by omega) _ f0,Zb hne,w64 (by omega) (by omega)];refine Ok.setAt f0 (by rw[ZH];omega) (Ok.mk ⟨g - 1,by omega,k+1,by rw[w64 (by omega) (by omega)];rfl,by omega,by rw[ZH,ZH];omega,λv v0 v1=>?_⟩);rw[QjB (ex v) a hy,Qlb f0 (by rw[ZH];omega) _ v0,Qlb t0 (by omega) _ v0];obtain⟨m,C,D⟩:=f v v0 v1;rw[<-m];unfold ex;rw[Qzy,Qzy];by_cases j:v=e.From
      · have l:¬v=e.To:=λq=>hne (j.symm.trans q);simp only[Zc j,Zb l];rw[<-j];omega
      · by_cases l:v=e.To
        · simp only[Zb j,Zc l];rw[<-l];omega
        · simp only[Zb j,Zb l];omega
    · have d:¬(k:Int)<x.l.length:=ZA d;have:k=x.l.length:=by omega
      subst this;refine Ok.mk ⟨t,λv v0 v1=>?_⟩;obtain⟨m,C,D⟩:=f v v0 v1;rw[Zu (Zr _),Zu (by rw[hx.flow.1];exact Zr _)] at m;exact⟨m,by omega,by omega⟩
theorem QtC {g:Nat->Int}:∀{n:Nat},psum (λi=>g i+ h i) n=psum g n+psum h n
  | 0=>rfl
  | n+1=>by show psum (λi=>g i+ h i) n+(g n+ h n)=psum g n+g n+(psum h n+ h n);rw[QtC];omega
def up (g:Nat->Int) (j:Nat) (d:Int):Nat->Int:=λi=>if i=j then g i+d else g i
theorem QqU (l h:Nat->Int):∀(n:Nat) (s:Int),(∀j,j<n->l j<=h j)->psum l n<=s->s<=psum h n->∃t:Nat->Int,(∀j,j<n->l j<=t j/\t j<=h j)/\psum t n=s
  | 0,s,_,a,b=>⟨λ_=>0,λj d=>absurd d (by omega),by have a:(0:Int)<=s:=a;have b:s<=(0:Int):=b;show (0:Int)=s;omega⟩
  | n+1,s,hlh,a,b=>by
    have a:psum l n+l n<=s:=a;have b:s<=psum h n+ h n:=b;have g:=hlh n (by omega);have f:psum l n<=psum h n:=QqT λj d=>hlh j (by omega)
    -- the last one takes what the others cannot
    let y:Int:=max (l n) (s - psum h n)
    obtain⟨t,t1,t2⟩:=QqU l h n (s - y) (λj d=>hlh j (by omega)) (by show psum l n<=s - max (l n) (s - psum h n);omega) (by show s - max (l n) (s - psum h n)<=psum h n;omega);refine⟨λj=>if j=n then y else t j,λj d=>?_,?_⟩
    · by_cases e:j=n
      · subst e;dsimp only;rw[Zc rfl];show l j<=max (l j) (s - psum h j)/\max (l j) (s - psum h j)<=h j;omega
      · dsimp only;rw[Zb e];exact t1 j (by omega)
    · have:psum (λj=>if j=n then y else t j) n=psum t n:=QfF λj d=>Zb (by omega);show psum (λj=>if j=n then y else t j) n+(if n=n then y else t n)=s;rw[this,Zc rfl,t2];omega
section
variable (lo hi:Int)
def lowP (u:Int):Int:=max 0 (lo - u)
def aP (k u:Int):Int:=max (lowP lo u) (min k (hi - u))
structure Fits (to:Nat) (u:Nat->Int) (left:Int) (t:Nat->Int):Prop where
  bd:∀j,j<to->lowP lo (u j)<=t j/\t j<=hi - u j
  sum:psum t to=left
def Qsa (to:Nat) (k u:Nat->Int) (left:Int):Int:=
  if psum (λj=>aP lo hi (k j) (u j)) to - left>psum (λj=>aP lo hi (k j) (u j) - lowP lo (u j)) to\/left - psum (λj=>aP lo hi (k j) (u j)) to>psum (λj=>hi - u j - aP lo hi (k j) (u j)) to then -1
  else psum (λj=>min (k j) (aP lo hi (k j) (u j))) to - max 0 (psum (λj=>aP lo hi (k j) (u j)) to - left)
variable {lo hi} {to:Nat} {k u:Nat->Int} {left:Int}
end
theorem Qvy (a b:Int):imin a b=min a b:=by unfold imin;split<;>omega
def kc (l:List Int) (j:Nat):Int:=(l.count (j:Int):Int)
def uf (l:List Int) (j:Nat):Int:=lv l (j:Int)
theorem QwL (l:List Int) (j:Nat):0<=kc l j/\kc l j<=l.length:=by unfold kc;have:=count_le_length (a:=(j:Int)) (l:=l);omega
structure QzB (used:List Int) (lo hi:Int):Prop where
  len:used.length<=62
  bd:∀u∈used,0<=u/\u<=600/\0<=lo/\lo<=600/\0<=hi/\hi<=600
theorem QzB.at {a:List Int} {lo hi:Int} (h:QzB a lo hi) {j:Nat} (b:j<a.length):a[j]?=some (uf a j)/\0<=uf a j/\uf a j<=600/\0<=lo/\lo<=600/\0<=hi/\hi<=600:=by
  have e:uf a j=a[j]:=by unfold uf lv;rw[ZF,Zd b];rfl
  rw[e];exact⟨Zd b,h.bd _ (Zo b)⟩
section
variable (lo hi:Int) (k u:Nat->Int)
end
def seek (p:Nat->Bool):Nat->Nat->Option Nat
  | _,0=>none
  | j,g+1=>if p j=true then some j else seek p (j+1) g
section
variable (lo hi:Int)
def score (rest:List Int) (c:Int) (a:List Int) (j:Nat):Int:=if (decide (Qsa lo hi a.length (kc rest) (up (uf a) j 1) rest.length>=0)&&((j:Int)==c))=true then Qsa lo hi a.length (kc rest) (up (uf a) j 1) rest.length+1 else Qsa lo hi a.length (kc rest) (up (uf a) j 1) rest.length
def allP (rest:List Int) (a:List Int):Int:=Qsa lo hi a.length (kc rest) (uf a) rest.length
def fit (rest:List Int) (c:Int) (a:List Int) (j:Nat):Bool:=decide (uf a j<hi)&&(score lo hi rest c a j==allP lo hi (c::rest) a)
def more (a:List Int) (j:Nat):List Int:=a.set j (uf a j+1)
def G:List Int->List Int->List Int×List Int
  | [],used=>([],used)
  | c::rest,used=>match seek (fit lo hi rest c used) 0 used.length with
    | some j=>((j:Int)::(G rest (more used j)).1,(G rest (more used j)).2)
    | none=>G rest used
end
def keeps:List Int->List Int->Int
  | a::l,b::m=>(if b=a then 1 else 0)+keeps l m
  | _,_=>0
structure GOkE (lo hi:Int) (rest used out used':List Int):Prop where
  len:out.length=rest.length
  mem:∀x∈out,0<=x/\x<used.length
  ulen:used'.length=used.length
  use:∀j,j<used.length->uf used' j=uf used j+kc out j
  keep:keeps rest out=allP lo hi rest used
  bd:∀j,j<used.length->lo<=uf used' j/\uf used' j<=hi
def QdE (m:List (Int×Qg)) (n:Nat):Int:=psum (λi=>one (mget m (i:Int)=none)) n
def In (m:List (Int×Qg)) (f v:Int):Prop:=v=f\/∃a,mget m v=some a
structure RI (x:Qw) (f:Int) (m:List (Int×Qg)) (τ:Int->Int) (t:Int):Prop where
  ent:∀v a,mget m v=some a->a∈x.arcs/\a.to=v/\v≠f/\1<=room x a/\In m f a.from'/\τ a.from'<τ v
  le:∀v,τ v<=t
  ge:∀v,0<=τ v
theorem QmS (m:List (Int×Qg)) (n:Nat):0<=QdE m n:=QlM λ_ _=>(Qzx _).1
theorem QzC {m:List (Int×Qg)} {n:Nat} (a:Qg) (h0:0<=v) (d:v<n) (b:mget m v=none):QdE (mset m v a) n+1<=QdE m n:=by
  have:QdE (mset m v a) n<QdE m n:=by
    refine Qmd v.toNat (λi _=>?_) (by omega) ?_
    · unfold one;by_cases e:mget m (i:Int)=none
      · rw[Zc e];split<;>omega
      · rw[Zb e,Zb]
        · exact Zx _
        · rw[Qb3];split
          · exact λq=>by cases q
          · exact e
    · have e:(v.toNat:Int)=v:=by omega
      rw[e];unfold one;rw[Zc b,Zb]
      · decide
      · rw[Qb3,Zc rfl];exact λq=>by cases q
  omega
theorem RI.put {x:Qw} {f:Int} {m:List (Int×Qg)} {t:Int} (h:RI x f m τ t) {a:Qg} (ha:a∈x.arcs) (j:1<=room x a) (hf:a.to≠f) (l:mget m a.to=none) (hi:In m f a.from'):
    RI x f (mset m a.to a) (λv=>if v=a.to then t+1 else τ v) (t+1):=by
  have d:∀v,In m f v->In (mset m a.to a) f v/\v≠a.to:=λv n=>by
    rcases n with rfl | ⟨b,hb⟩
    · exact⟨.inl rfl,λe=>hf e.symm⟩
    · have:v≠a.to:=λe=>by rw[e,l] at hb;cases hb
      exact⟨.inr ⟨b,by rw[Qb3,Zb this];exact hb⟩,this⟩
  refine⟨λv b hb=>?_,λv=>?_,λv=>?_⟩
  · rw[Qb3] at hb;by_cases e:v=a.to
    · rw[Zc e] at hb;obtain rfl:=Zn hb;subst e;have:=d _ hi;have:=h.le a.from';exact⟨ha,rfl,hf,j,(d _ hi).1,by rw[Zc rfl,Zb (d _ hi).2];omega⟩
    · rw[Zb e] at hb;obtain⟨g1,g2,g3,o,g,p⟩:=h.ent v b hb;exact⟨g1,g2,g3,o,(d _ g).1,by rw[Zb e,Zb (d _ g).2];exact p⟩
  · have:=h.le v;split<;>omega
  · have:=h.le v;have:=h.ge v;split<;>omega
def Qou (x:Qw) (f:Int) (m:List (Int×Qg)):Prop:=(∃τ t,RI x f m τ t)/\∀a∈x.arcs,1<=room x a->In m f a.from'->In m f a.to
theorem QBU {x:Qw} (hx:QdD x) {f:Int} (f0:0<=f) (f1:f<x.n):Ok (Qdt x f) (λr=>∃m,r=some m/\Qou x f m):=by
  have a4:=hx.n0;have a5:=hx.n1;have a6:=hx.alen;unfold Qdt;refine Ok.bind (P:=λr=>∃m,r=some m/\Qou x f m) (Ok.loop (λg s=>∃m τ t,s.2=some m/\RI x f m τ t/\(2 * QdE m x.n.toNat+s.1.length)=g/\(∀v∈s.1,In m f v)/\s.1.length+QdE m x.n.toNat<=65/\∀a∈x.arcs,1<=room x a->In m f a.from'->a.from'∈s.1\/In m f a.to) (2 * QdE [] x.n.toNat+1).toNat ⟨[],λ_=>0,0,rfl,⟨λv a h=>by simp[mget] at h,λv=>Zx _,λv=>Zx _⟩,?_,λv Y=>.inl (Zg.1 Y),?_,λa ha y hi=>?_⟩ λg s Z=>?_) λr y=>Ok.mk y
  · have:=QmS [] x.n.toNat;simp;omega
  · have:QdE [] x.n.toNat<=x.n.toNat:=by
      unfold QdE;generalize x.n.toNat=n
      induction n with
      | zero=>exact Zx _
      | succ n ih=>
        have:=(Qzx (mget ([]:List (Int×Qg)) (n:Int)=none)).2;show psum _ n+_<=_
        push_cast
        omega
    simp;omega
  · rcases hi with hi | ⟨b,hb⟩
    · exact .inl (by simp[hi])
    · simp[mget] at hb
  · obtain⟨m,τ,t,h1,h2,h3,h4,h5,h6⟩:=Z;obtain⟨q,mm⟩:=s;dsimp only at h1 h3 h4 h5 h6 ⊢;subst h1;refine Ok.ite (λC=>?_) (λC=>?_)
    · have C:(q.length:Int)>0:=Zt C
      cases q with
      | nil=>simp at C
      | cons v q=>
        have e1:idx (v::q) (0:Int)=some v:=rfl;have e2:sub (v::q) (1:Int) (((v::q).length:Nat):Int)=some q:=by unfold sub;rw[Zc ⟨by decide,by simp;omega,Zx _⟩];simp
        rw[e1,e2];simp only[Za];have Y:=h4 v (by simp);have a7:=QmS m x.n.toNat;simp only[Zk] at h3 h5;refine Ok.bind (P:=λp=>∃l τ t,p.1=some l/\RI x f l τ t/\2 * QdE l x.n.toNat+p.2.length<=2 * QdE m x.n.toNat+q.length/\(∀v∈p.2,In l f v)/\p.2.length+QdE l x.n.toNat<=64/\
            ∀a∈x.arcs,1<=room x a->In l f a.from'->a.from'∈p.2\/In l f a.to) (Ok.loop (λg s=>∃(i:Nat) (l:List (Int×Qg)) (τ:Int->Int) (t:Int),s.1=i/\i+g=x.arcs.length/\s.2.1=some l/\RI x f l τ t/\2 * QdE l x.n.toNat+s.2.2.length<=2 * QdE m x.n.toNat+q.length/\(∀v∈s.2.2,In l f v)/\s.2.2.length+QdE l x.n.toNat<=64/\In l f v/\
            ∀(j:Nat) a,x.arcs[j]?=some a->1<=room x a->In l f a.from'->a.from'∈s.2.2\/In l f a.to\/(a.from'=v/\i<=j)) x.arcs.length ⟨0,m,τ,t,rfl,by omega,rfl,h2,Zx _,λu hu=>h4 u (by simp[hu]),by dsimp only;omega,Y,λj a A y hi=>?_⟩ λg' s Z=>?_) λp hp=>?_
        · rcases h6 a (Zl A) y hi with h | h
          · rcases Zp.1 h with h | h
            · exact .inr (.inr ⟨h,by omega⟩)
            · exact .inl h
          · exact .inr (.inl h)
        · obtain⟨i,l,D,T,i1,i2,i3,i4,i5,U,i7,i8,X⟩:=Z;obtain⟨si,a8,q'⟩:=s;dsimp only at i1 i3 i5 U i7 X ⊢;subst i1;subst i3;refine Ok.ite (λhi=>?_) (λhi=>?_)
          · have hi:(i:Int)<x.arcs.length:=Zt hi;refine Ok.bind (P:=λp=>∃l τ t,p.1=some l/\RI x f l τ t/\2 * QdE l x.n.toNat+p.2.length<=2 * QdE m x.n.toNat+q.length/\(∀v∈p.2,In l f v)/\p.2.length+QdE l x.n.toNat<=64/\In l f v/\
              ∀(j:Nat) a,x.arcs[j]?=some a->1<=room x a->In l f a.from'->a.from'∈p.2\/In l f a.to\/(a.from'=v/\i+1<=j)) ?_ λp hp=>?_
            · refine Ok.idx (by omega) hi λa ha E=>?_;have E:x.arcs[i]?=some a:=by simpa using E
              obtain⟨hA,a9,b0,at0,at1,hne,_,_⟩:=Qey hx ha;have H:(1<=room x a->a.from'=v->In l f a.to)->Ok (some ((some l:Mp Qg),q')) (λp=>∃l τ t,p.1=some l/\RI x f l τ t/\2 * QdE l x.n.toNat+p.2.length<=2 * QdE m x.n.toNat+q.length/\(∀v∈p.2,In l f v)/\p.2.length+QdE l x.n.toNat<=64/\In l f v/\
                ∀(j:Nat) a,x.arcs[j]?=some a->1<=room x a->In l f a.from'->a.from'∈p.2\/In l f a.to\/(a.from'=v/\i+1<=j)):=λhk=>by
                refine Ok.mk ⟨l,D,T,rfl,i4,i5,U,i7,i8,λj b A y z=>?_⟩;rcases X j b A y z with h | h | ⟨h,I⟩
                · exact .inl h
                · exact .inr (.inl h)
                · by_cases e:i=j
                  · subst e;rw[E] at A;obtain rfl:=Zn A;exact .inr (.inl (hk y h))
                  · exact .inr (.inr ⟨h,by omega⟩)
              refine Ok.opt (P:=λr=>r=room x a) (λ_=>⟨_,(Qot hx hA).1,rfl⟩) λr y=>?_;refine Ok.ite (λo=>H λb1 K=>?_) (λo=>?_)
              · simp only[ZJ,bne_iff_ne,Yf] at o;rcases o with ((o | o) | o) | o
                · exact absurd K o
                · exact .inl o
                · obtain⟨b,hb⟩:=Option.isSome_iff_exists.1 o;exact .inr ⟨b,hb⟩
                · by_cases F:(((a.from' !=v)||(a.to==f))||(QaX (some l) a.to).isSome)=true
                  · simp only[ZJ,bne_iff_ne,Yf] at F;rcases F with (o | o) | o
                    · exact absurd K o
                    · exact .inl o
                    · obtain⟨b,hb⟩:=Option.isSome_iff_exists.1 o;exact .inr ⟨b,hb⟩
                  · have:=y (by simp only[Yq] at F;rw[F];rfl);omega
              · simp only[Bool.or_eq_false_iff,bne_eq_false_iff_eq,beq_eq_false_iff_ne] at o;obtain⟨⟨⟨c1,c2⟩,c3⟩,c4⟩:=o;have b2:=y (by rw[show ((a.from' !=v)=false) from by simpa using c1,show ((a.to==f)=false) from by simpa using c2,c3];rfl);obtain⟨_,r0,r1⟩:=Qot hx hA;have B:mget l a.to=none:=by
                  cases C:mget l a.to with
                  | none=>rfl
                  | some b=>have:QaX (some l) a.to=some b:=C;rw[this] at c3;cases c3
                have M:=i4.put ha (by omega) c2 B (by rw[c1];exact i8);have b3:=QzC (n:=x.n.toNat) a at0 (by omega) B;have N:=QmS (mset l a.to a) x.n.toNat;have z:∀u,In l f u->In (mset l a.to a) f u:=λu hu=>by
                  rcases hu with rfl | ⟨b,hb⟩
                  · exact .inl rfl
                  · refine .inr ?_;rw[Qb3];split
                    · exact⟨_,rfl⟩
                    · exact⟨b,hb⟩
                have O:In (mset l a.to a) f a.to:=.inr ⟨a,by rw[Qb3,Zc rfl]⟩;show Ok ((some (some (mset l a.to a))).bind _) _;simp only[Za];refine Ok.rm (by simp;omega) (Ok.mk ⟨mset l a.to a,_,_,rfl,M,by simp;omega,λu hu=>?_,by simp;omega,z v i8,λj b A y hb=>?_⟩)
                · rcases ZB.1 hu with hu | hu
                  · exact z u (U u hu)
                  · rw[Zg.1 hu];exact O
                · by_cases eb:b.from'=a.to
                  · exact .inl (by simp[eb])
                  · have a0:In l f b.from':=by
                      rcases hb with hb | ⟨d,hd⟩
                      · exact .inl hb
                      · rw[Qb3,Zb eb] at hd;exact .inr ⟨d,hd⟩
                    rcases X j b A y a0 with h | h | ⟨h,I⟩
                    · exact .inl (by simp[h])
                    · exact .inr (.inl (z _ h))
                    · by_cases e:i=j
                      · subst e;rw[E] at A;obtain rfl:=Zn A;exact .inr (.inl O)
                      · exact .inr (.inr ⟨h,by omega⟩)
            · obtain⟨a1,S,a2,k1,k2,k3,k4,k5,k6,k7⟩:=hp;exact Ok.mk ⟨g' - 1,by omega,i+1,a1,S,a2,by rw[w64 (by omega) (by omega)];rfl,by omega,k1,k2,k3,k4,k5,k6,k7⟩
          · have hi:¬(i:Int)<x.arcs.length:=ZA hi;refine Ok.mk ⟨l,D,T,rfl,i4,i5,U,i7,λa ha y z=>?_⟩;obtain⟨j,A,a3⟩:=mem_iff_getElem.1 ha;rcases X j a (by rw[Zd A,a3]) y z with h | h | ⟨_,I⟩
            · exact .inl h
            · exact .inr h
            · omega
        · obtain⟨l,D,T,k1,k2,k3,k4,k5,k6⟩:=hp;have N:=QmS l x.n.toNat;refine Ok.mk ⟨(2 * QdE l x.n.toNat+p.2.length).toNat,by omega,l,D,T,k1,k2,by dsimp only;omega,k4,by dsimp only;omega,k6⟩
    · have C:¬(q.length:Int)>0:=ZA C;have:q=[]:=by cases q with | nil=>rfl | cons=>simp at C
      subst this;refine Ok.mk ⟨m,rfl,⟨τ,t,h2⟩,λa ha y hi=>?_⟩;rcases h6 a ha y hi with h | h
      · cases h
      · exact h
theorem tele (g:Nat->Int):∀n,psum (λi=>g i - g (i+1)) n=g 0 - g n
  | 0=>by show (0:Int)=g 0 - g 0;omega
  | n+1=>by show psum (λi=>g i - g (i+1)) n+(g n - g (n+1))=_;rw[tele g n];omega
theorem QBV {l:List Qi} {c:Nat->Qg} (h:Qks l (c i)) (v:Int):Qjh l c (ex v) i=one ((c i).to=v) - one ((c i).from'=v):=by
  obtain⟨e,f,g⟩:=h.ex;unfold Qjh;rw[f];unfold ex;rcases g with⟨a,b,d,_⟩ | ⟨a,b,d,_⟩
  · simp only[a,b,d];omega
  · simp only[a,b,d];omega
theorem QwN {l:List Qi} {c:Nat->Qg} (h:Qks l (c i)):Qjh l c (·.Cost) i=(c i).cost:=by
  obtain⟨e,d,f⟩:=h.ex;unfold Qjh;rw[d];rcases f with⟨a,_,_,b⟩ | ⟨a,_,_,b⟩
  · simp only[a,b];omega
  · simp only[a,b];omega
theorem Qrz {x:Qw} {c:Nat->Qg} {p:Nat} {m:Int} (h:Qlt x mp w c p) (hp:Qla x x' c p m) (v:Int):
    lin (ex v) x.l x'.flow=lin (ex v) x.l x.flow+m * (one (w 0=v) - one (w p=v)):=by
  rw[hp.lin (ex v)];have e:psum (Qjh x.l c (ex v)) p=psum (λi=>one (w i=v) - one (w (i+1)=v)) p:=QfF λi hi=>(QBV (h.arc i hi) v).trans (by rw[h.to i hi,h.from' i hi]);rw[e,tele λi=>one (w i=v)]
theorem Quq {x:Qw} {c:Nat->Qg} {p:Nat} {m:Int} (h:Qlt x mp w c p) (hp:Qla x x' c p m):
    lin (·.Cost) x.l x'.flow=lin (·.Cost) x.l x.flow+m * psum (λi=>(c i).cost) p:=by
  rw[hp.lin (·.Cost)];have e:psum (Qjh x.l c (·.Cost)) p=psum (λi=>(c i).cost) p:=QfF λi hi=>QwN (h.arc i hi);rw[e]
theorem Qla.ok {x:Qw} {c:Nat->Qg} {p:Nat} {m:Int} (hx:QdD x) (h:Qla x x' c p m):QdD x':=by obtain⟨n,l,f,a⟩:=x';obtain⟨b,d,e,g,_⟩:=h;dsimp only at b d e g;subst b;subst d;subst e;exact⟨hx.n0,hx.n1,hx.l1,hx.edges,g,hx.arcs,hx.alen⟩
theorem Qvz {x:Qw} (hx:QdD x) {f:Int} {m:List (Int×Qg)} {t:Int} (h:RI x f m τ t):∀(n:Nat) (w:Int) a,τ w<=n->mget m w=some a->
    ∃p,1<=p/\back m w p=f/\(∀i,i<p->∃b,mget m (back m w i)=some b)
  | n,w,a,hn,ha=>by
    obtain⟨g1,g2,g3,j,d,l⟩:=h.ent w a ha;have e1:back m w 1=a.from':=by show ((mget m w).getD zarc).from'=_;rw[ha];rfl
    rcases d with d | ⟨b,hb⟩
    · exact⟨1,Zr _,by rw[e1,d],λi hi=>by
        have:i=0:=by omega
        subst this;exact⟨a,ha⟩⟩
    · cases n with
      | zero=>have:=h.ge a.from';omega
      | succ n=>
        obtain⟨p,o,e,g⟩:=Qvz hx h n a.from' b (by omega) hb;refine⟨1+p,by omega,by rw[QhO,e1,e],λi hi=>?_⟩
        cases i with
        | zero=>exact⟨a,ha⟩
        | succ i=>rw[Nat.add_comm i 1,QhO,e1];exact g i (by omega)
theorem Qur {x:Qw} (hx:QdD x) {f:Int} {m:List (Int×Qg)} (h:Qou x f m) {w:Int} {a:Qg} (ha:mget m w=some a):
    ∃u c p,Qlt x (some m) u c p/\u 0=w/\u p=f:=by
  obtain⟨⟨τ,t,h⟩,_⟩:=h;obtain⟨p,H,B,I⟩:=Qvz hx h (τ w).toNat w a (by omega) ha
  let c:=λi=>(mget m (back m w i)).getD zarc
  have C:∀i,i<p->mget m (back m w i)=some (c i):=λi hi=>by obtain⟨b,hb⟩:=I i hi;show _=some ((mget m (back m w i)).getD zarc);rw[hb];rfl
  have d:=λi hi=>h.ent _ _ (C i hi);have l:∀i,i<p->τ (back m w (i+1))<τ (back m w i):=λi hi=>(d i hi).2.2.2.2.2;have g:∀i j,i<j->j<=p->τ (back m w j)<τ (back m w i):=λi j o=>by
    induction j with
    | zero=>omega
    | succ j K=>
      intro n;have s:=l j (by omega);by_cases e:i=j
      · subst e;exact s
      · have:=K (by omega) (by omega);omega
  refine⟨back m w,c,p,⟨H,C,λi hi=>(Qey hx (d i hi).1).1,λi hi=>(d i hi).2.1,λi _=>rfl,λi hi=>(d i hi).2.2.2.1,λi _ M=>by rw[B];exact (d i M).2.2.1,λi j o n N=>?_⟩,rfl,B⟩;have S:(c i).from'=back m w (i+1):=rfl;have D:(c j).from'=back m w (j+1):=rfl;have ti:=(d i (by omega)).2.1;have E:=(d j n).2.1;obtain⟨e,q,O⟩:=(Qey hx (d i (by omega)).1).1.ex;obtain⟨e',y,oj⟩:=(Qey hx (d j n).1).1.ex;rw[N,y] at q;obtain rfl:=Zn q;have F:=g i j o (by omega);have r:=g i (j+1) (by omega) (by omega);rcases O with⟨_,a1,a2,a3⟩ | ⟨_,a1,a2,a3⟩<;>rcases oj with⟨_,z,A,P⟩ | ⟨_,z,A,P⟩
  · have:back m w i=back m w j:=by rw[<-ti,<-E,a2,A]
    rw[this] at F;omega
  · have:back m w i=back m w (j+1):=by rw[<-ti,<-D,a2,z]
    rw[this] at r;omega
  · have:back m w i=back m w (j+1):=by rw[<-ti,<-D,a2,z]
    rw[this] at r;omega
  · have:back m w i=back m w j:=by rw[<-ti,<-E,a2,A]
    rw[this] at F;omega
def Circ (l:List Qi) (n:Int) (f:List Int):Prop:=∀v,0<=v->v<n->lin (ex v) l f=0
theorem cut_ok {x:Qw} (hx:QdD x) (t:∀(k:Nat) e,x.l[k]?=some e->∀fw:Bool,∃a∈x.arcs,a.edge=k/\a.forward=(if fw=true then 1 else -1)) {f:Int} {m:List (Int×Qg)} (h:Qou x f m) {g:List Int} (H:Qc4 x.l g) (K:Circ x.l x.n g) (r:Int->Int) (I:∀v,(r v=1/\In m f v)\/(r v=0/\¬In m f v)):
    psum (λi=>r i * lin (ex i) x.l x.flow) x.n.toNat<=0:=by
  have E:=hx.n0;have e1:∀f,psum (λi=>r i * lin (ex i) x.l f) x.n.toNat=lin (λe=>r e.To - r e.From) x.l f:=λf=>by rw[Qpe (λi=>r i) (λi=>ex i)];refine QnS λe M=>?_;have:=hx.edges e M;exact Qvv r (by rw[Int.toNat_of_nonneg E];exact this)
  have e2:psum (λi=>r i * lin (ex i) x.l g) x.n.toNat=0:=Qj2 λi hi=>by rw[K i (by omega) (by omega)];omega
  rw[e1] at e2;rw[e1,<-e2];refine Qzz _ hx.flow.1 H.1 λk e y z s hy hz=>?_;have O:=hx.flow.2 k e y s hy;have P:=H.2 k e z s hz;have A:∀fw:Bool,∀a∈x.arcs,a.edge=k->a.forward=(if fw=true then 1 else -1)->In m f a.from'->¬In m f a.to->(a.from'=if fw=true then e.From else e.To)/\(a.to=if fw=true then e.To else e.From)/\room x a=(if fw=true then e.Hi - y else y - e.Lo):=λfw a ha B b _ _=>by
    have hA:=(Qey hx ha).1;obtain⟨e',d,C⟩:=hA.ex;have:a.edge.toNat=k:=by omega
    rw[this,s] at d;obtain rfl:=Zn d;have j:room x a=if a.forward>0 then e.Hi - y else y - e.Lo:=by unfold room;rw[this,s,hy]
    cases fw with
    | true=>
      rw[Zc rfl] at b;rcases C with⟨l,o,p,_⟩ | ⟨l,_⟩
      · rw[j,b];exact⟨o,p,rfl⟩
      · rw[l] at b;cases b
    | false=>
      rw[Zb (by decide)] at b;rcases C with⟨l,_⟩ | ⟨l,o,p,_⟩
      · rw[l] at b;cases b
      · rw[j,b];exact⟨o,p,rfl⟩
  have n:∀fw:Bool,In m f (if fw=true then e.From else e.To)->¬In m f (if fw=true then e.To else e.From)->(if fw=true then e.Hi - y else y - e.Lo)<=0:=λfw hi q=>by
    obtain⟨a,ha,B,b⟩:=t k e s fw;have hA:=(Qey hx ha).1;obtain⟨e',d,C⟩:=hA.ex;have F:a.edge.toNat=k:=by omega
    rw[F,s] at d;obtain rfl:=Zn d;have D:a.from'=(if fw=true then e.From else e.To)/\a.to=(if fw=true then e.To else e.From):=by
      cases fw with
      | true=>
        rw[Zc rfl] at b;rcases C with⟨l,o,p,_⟩ | ⟨l,_⟩
        · exact⟨o,p⟩
        · rw[l] at b;cases b
      | false=>
        rw[Zb (by decide)] at b;rcases C with⟨l,_⟩ | ⟨l,o,p,_⟩
        · rw[l] at b;cases b
        · exact⟨o,p⟩
    rw[<-D.1] at hi;rw[<-D.2] at q;have S:=(A fw a ha B b hi q).2.2;by_cases N:1<=room x a
    · exact absurd (h.2 a ha N hi) q
    · omega
  rcases I e.To with⟨t1,t2⟩ | ⟨t1,t2⟩<;>rcases I e.From with⟨f1,f2⟩ | ⟨f1,f2⟩
  · rw[t1,f1];omega
  · have:=n false t2 f2;rw[Zb (by decide)] at this;rw[t1,f1];omega
  · have:=n true f2 t2;rw[Zc rfl] at this;rw[t1,f1];omega
  · rw[t1,f1];omega
def Full (l:List Qi) (b:List Qg):Prop:=∀(k:Nat) e,l[k]?=some e->∀fw:Bool,∃a∈b,a.edge=k/\a.forward=(if fw=true then 1 else -1)
def posp (y:Int):Int:=if 0<y then y else 0
def pot (l:List Qi) (n:Int) (f:List Int):Int:=psum (λi=>posp (lin (ex i) l f)) n.toNat
theorem Qqp (l:List Qi) (n:Int) (f:List Int):0<=pot l n f:=QlM λ_ _=>by unfold posp;split<;>omega
theorem QwO {x:Qw} {c:Nat->Qg} {p:Nat} {m:Int} (h:Qlt x mp w c p) (hp:Qla x x' c p m) (hm:1<=m) (v0:0<=w p) (v1:w p<x.n) (d:m<=lin (ex (w p)) x.l x.flow) (b:m<=-lin (ex (w 0)) x.l x.flow):pot x.l x.n x'.flow<pot x.l x.n x.flow:=by
  have hne:w 0≠w p:=λe=>by rw[e] at b;omega
  have a:=Qrz h hp;refine Qmd (w p).toNat (λi _=>?_) (by omega) ?_
  · rw[a];unfold one;by_cases e0:w 0=(i:Int)
    · rw[Zc e0,Zb (λe=>hne (e0.trans e.symm)),<-e0];unfold posp;split<;>split<;>omega
    · by_cases e1:w p=(i:Int)
      · rw[Zb e0,Zc e1];unfold posp;split<;>split<;>omega
      · rw[Zb e0,Zb e1];rw[show m * (0 - 0)=0 by omega,Int.add_zero];exact Zx _
  · have e:((w p).toNat:Int)=w p:=by omega
    rw[e,a];unfold one;rw[Zb hne,Zc rfl];unfold posp;split<;>split<;>omega
theorem QwP {x:Qw} (hx:QdD x) (hf:Full x.l x.arcs) {g:List Int} (hg:Qc4 x.l g) (hc:Circ x.l x.n g):
    Ok (QcO x) (λr=>r.1=[]/\∃f,r.2=Qw.mk x.n x.l f x.arcs/\Qc4 x.l f/\Circ x.l x.n f):=by
  have U:=hx.n0;have a3:=hx.n1;have net:∀f,Qc4 x.l f->QdD (Qw.mk x.n x.l f x.arcs):=λf h=>⟨hx.n0,hx.n1,hx.l1,hx.edges,h,hx.arcs,hx.alen⟩;unfold QcO;refine Ok.bind (P:=λp=>p.1=[]/\p.2.1=x.n/\p.2.2.1=x.l/\p.2.2.2.1=x.arcs/\Qc4 x.l p.2.2.2.2/\Circ x.l x.n p.2.2.2.2) (Ok.loop (λk s=>s.1=x.n/\s.2.1=x.l/\s.2.2.1=x.arcs/\Qc4 x.l s.2.2.2/\pot x.l x.n s.2.2.2=k) (pot x.l x.n x.flow).toNat ⟨rfl,rfl,rfl,hx.flow,by have:=Qqp x.l x.n x.flow;dsimp only;omega⟩ λk s D=>?_) λp hp=>?_
  · obtain⟨T,X,F,Y,h5⟩:=D;obtain⟨n,l,ar,f⟩:=s;dsimp only at T X F Y h5 ⊢;subst T;subst X;subst F;have hy:=net f Y;refine (QzA hy).bind λE hE=>?_;obtain⟨e1,e2⟩:=hE;dsimp only at e1 e2;refine Ok.bind (P:=λr=>match r with | .inl _=>∀v,0<=v->v<x.n->lv E v<=0 | .inr p=>p.1=x.n/\p.2.1=x.l/\p.2.2.1=x.arcs/\Qc4 x.l p.2.2.2/\pot x.l x.n p.2.2.2<k)
      (Ok.loop (λg s=>∃i:Nat,s=i/\i+g=E.length/\∀v:Int,0<=v->v<i->lv E v<=0) E.length ⟨0,rfl,by omega,λv v0 v1=>absurd v1 (by omega)⟩ λg' s D=>?_) λr b=>?_
    · obtain⟨i,T,X,F⟩:=D;subst T;refine Ok.ite (λhi=>?_) (λhi=>?_)
      · have hi:(i:Int)<E.length:=Zt hi;unfold jn;refine Ok.lv (by omega) hi ?_;refine Ok.ite (λB=>?_) (λB=>?_)
        · have B:lv E i<=0:=Zt B;refine Ok.mk ⟨g' - 1,by omega,i+1,by rw[w64 (by omega) (by omega)];rfl,by omega,λv v0 v1=>?_⟩;by_cases e:v=i
          · rw[e];exact B
          · exact F v v0 (by omega)
        · have B:¬lv E i<=0:=ZA B;refine (QBU hy (f:=(i:Int)) (by omega) (by show (i:Int)<x.n;omega)).bind λmm hm=>?_;obtain⟨m,rfl,H⟩:=hm;refine Ok.bind (P:=λr=>match r with | .inl _=>False | .inr p=>p.1=x.n/\p.2.1=x.l/\p.2.2.1=x.arcs/\Qc4 x.l p.2.2.2/\pot x.l x.n p.2.2.2<k)
            (Ok.loop (λg s=>∃j:Nat,s=j/\j+g=x.n.toNat/\∀w:Int,0<=w->w<j->(∃a,mget m w=some a)->0<=lv E w) x.n.toNat ⟨0,rfl,by omega,λv v0 v1=>absurd v1 (by omega)⟩ λI s D=>?_) λr b=>?_
          · obtain⟨j,j1,j2,Z⟩:=D;subst j1;refine Ok.ite (λC=>?_) (λC=>?_)
            · have C:(j:Int)<x.n:=Zt C;refine Ok.opt (P:=λr=>r=lv E j) (λ_=>?_) λr b=>?_
              · exact⟨_,Qzu (by omega) (by omega),rfl⟩
              · cases t:mget m (j:Int) with
                | none=>
                  have e:QaX (some m) (j:Int)=none:=t;rw[e];refine Ok.mk ⟨I - 1,by omega,j+1,by rw[w64 (by omega) (by omega)];rfl,by omega,λw w0 w1 o=>?_⟩;by_cases e:w=j
                  · obtain⟨a,ha⟩:=o;rw[e,t] at ha;cases ha
                  · exact Z w w0 (by omega) o
                | some a=>
                  have e:QaX (some m) (j:Int)=some a:=t;rw[e] at b ⊢;have b:=b rfl;subst b;simp only[Option.isSome_some,Bool.true_and];refine Ok.ite (λo=>?_) (λo=>?_)
                  · have o:lv E j<0:=Zt o;refine Ok.lv (by omega) (by omega) ?_;obtain⟨b1,b2,b3⟩:=e2 j (by omega) C;obtain⟨d1,d2,d3⟩:=e2 i (by omega) (by omega);rw[w64 (by omega) (by omega)];obtain⟨u,c,p,K,M,y⟩:=Qur hy H t;have q1:=Qtz (lv E i) (0 - lv E j);have q2:=QtA (lv E i) (0 - lv E j);have d:=Qvt hy K (most:=imin (lv E i) (0 - lv E j)) (Qvs (by omega) (by omega));rw[M,y] at d;refine d.bind λr b=>?_;obtain⟨r1,r2,N⟩:=b;refine Ok.mk ⟨N.n,N.l,N.arcs,N.flow,?_⟩;have a0:=QwO K N r1 (by rw[y];omega) (by rw[y];show (i:Int)<x.n;omega) (by rw[y];show r.1<=lin (ex i) x.l f;omega) (by rw[M];show r.1<=-lin (ex j) x.l f;omega);dsimp only at a0 ⊢;omega
                  · have o:¬lv E j<0:=ZA o;refine Ok.mk ⟨I - 1,by omega,j+1,by rw[w64 (by omega) (by omega)];rfl,by omega,λw w0 w1 o=>?_⟩;by_cases e:w=j
                    · rw[e];omega
                    · exact Z w w0 (by omega) o
            · have C:¬(j:Int)<x.n:=ZA C;refine Ok.mk ?_
              -- no node that can be reached lacks: a cut
              classical
              have z:=cut_ok hy hf H hg hc (λv=>if In m i v then 1 else 0) (λv=>by
                by_cases e:In m i v
                · exact .inl ⟨Zc e,e⟩
                · exact .inr ⟨Zb e,e⟩)
              have A:psum (λ_=>0) x.n.toNat<psum (λO=>(if In m i (O:Int) then (1:Int) else 0) * lin (ex O) x.l f) x.n.toNat:=by
                refine Qmd i (λq hq=>?_) (by omega) ?_
                · by_cases e:In m i (q:Int)
                  · rw[Zc e,Int.one_mul,<-(e2 q (by omega) (by omega)).1];rcases e with e | e
                    · rw[e];omega
                    · exact Z q (by omega) (by omega) e
                  · rw[Zb e];omega
                · rw[Zc (.inl rfl),Int.one_mul,<-(e2 i (by omega) (by omega)).1];omega
              have hz:psum (λ_=>0) x.n.toNat=0:=Qj2 λ_ _=>rfl;rw[hz] at A;have z:psum (λO=>(if In m i (O:Int) then (1:Int) else 0) * lin (ex O) x.l f) x.n.toNat<=0:=z;exact absurd A (by omega)
          · cases r with
            | inl u=>exact b.elim
            | inr p=>exact Ok.mk b
      · have hi:¬(i:Int)<E.length:=ZA hi;exact Ok.mk λv v0 v1=>F v v0 (by omega)
    · cases r with
      | inl u=>
        refine Ok.mk ⟨rfl,rfl,rfl,rfl,Y,?_⟩;have b:∀v,0<=v->v<x.n->lv E v<=0:=b;have S:psum (λi=>(1:Int) * lin (ex i) x.l f) x.n.toNat=0:=by
          rw[Qpe (λ_=>1) (λi=>ex i)];have:lin (λe=>psum (λi=>(1:Int) * ex i e) x.n.toNat) x.l f=lin (λ_=>0) x.l f:=QnS λe he=>by have:=Qvv (λ_=>1) (n:=x.n.toNat) (e:=e) (by rw[Int.toNat_of_nonneg U];exact hx.edges e he);rw[this];omega
          rw[this,Qpd]
        intro v v0 v1;obtain⟨a1,_⟩:=e2 v v0 v1;have a2:=b v v0 v1;show lin (ex v) x.l f=0;by_cases hz:lin (ex v) x.l f=0
        · exact hz
        · have:psum (λi=>(1:Int) * lin (ex i) x.l f) x.n.toNat<psum (λ_=>0) x.n.toNat:=Qmd v.toNat (λi hi=>by
            have b1:=(e2 i (by omega) (by omega)).1;have b2:=b i (by omega) (by omega);show (1:Int) * lin (ex i) x.l f<=0;omega) (by omega) (by
            have e:((v.toNat:Nat):Int)=v:=by omega
            show (1:Int) * lin (ex ((v.toNat:Nat):Int)) x.l f<0;rw[e];omega)
          rw[S,Qj2 λ_ _=>rfl] at this;omega
      | inr p=>obtain⟨p1,p2,p3,p4,p5⟩:=b;have:=Qqp x.l x.n p.2.2.2;refine Ok.mk ⟨(pot x.l x.n p.2.2.2).toNat,by omega,p1,p2,p3,p4,by dsimp only;omega⟩
  · obtain⟨p1,p2,p3,p4,p5,p6⟩:=hp;refine Ok.mk ⟨p1,p.2.2.2.2,?_,p5,p6⟩;rw[p2,p3,p4]
theorem QwQ {l:List Qi} {f:Qi->Option Bool} (hl:l.length<=1000000000) (h:∀e∈l,f e=some false):Qbs l f=some (-1):=by
  have key:Ok (Qbs l f) (λr=>r=-1):=by
    unfold Qbs;refine Ok.bind (P:=λr=>r=.inl ()) (Ok.loop (λg s=>∃i:Nat,s=i/\i+g=l.length) l.length ⟨0,rfl,by omega⟩ λg s b=>?_) λr a=>by subst a;exact Ok.mk rfl
    obtain⟨i,d,m⟩:=b;subst d;refine Ok.ite (λhi=>?_) (λ_=>Ok.mk rfl);have hi:(i:Int)<l.length:=Zt hi;refine Ok.idx (by omega) hi λe j _=>?_;rw[h e j];exact Ok.mk ⟨g - 1,by omega,i+1,by rw[w64 (by omega) (by omega)];rfl,by omega⟩
  obtain⟨r,a,rfl⟩:=key;exact a
theorem QrY {l:List Qi} {f:Qi->Option Bool} (hl:l.length<=1000000000) (h:∀e∈l,f e=some false):Qbo l f=some false:=by unfold Qbo;rw[QwQ hl h];rfl
structure Qqq (n:Int) (l:List Qi):Prop where
  n0:0<=n
  n1:n<=64
  len:l.length<=256
  edges:∀e∈l,QnR n e
theorem QBW {n:Int} {l:List Qi} (h:Qqq n l):QfI n l=some 0:=by
  have h0:=h.n0;have f:=h.n1;have g:=h.len;have b:∀e∈l,Qel e (λx0=>QcI x0 n)=some false:=λe d=>by
    have a:=h.edges e d;have a1:=a.f0;have a2:=a.f1;have a3:=a.t0;have a4:=a.t1;have a5:=a.lo;have a6:=a.le;have a7:=a.hi;have a8:=a.c0;have a9:=a.c1;have q:∀v,0<=v->v<n->QcI v n=some true:=λv v0 v1=>by unfold QcI;rw[decide_eq_true (show v>=0 from v0),decide_eq_true v1];rfl
    unfold Qel;dsimp only;rw[q _ a1 a2];simp only[Za];rw[show ((!true)==false)=true from rfl,Qtj,q _ a3 a4];simp only[Za];rw[decide_eq_false (show ¬e.Lo<0 by omega),decide_eq_false (show ¬e.Lo>e.Hi by omega),decide_eq_false (show ¬e.Hi>1000 by omega),decide_eq_false (show ¬e.Cost< -1000 by omega),decide_eq_false (show ¬e.Cost>1000 by omega)];rfl
  unfold QfI;rw[decide_eq_false (show ¬n>64 by omega),decide_eq_false (show ¬(l.length:Int)>256 by omega),decide_eq_false (show ¬n<0 by omega),QrY (by omega) b];rfl
theorem QFs {n:Int} {l:List Qi} (h:Qqq n l):Ok (Qgt n l) (λx=>x.n=n/\x.l=l/\QdD x/\Full l x.arcs):=by
  have h0:=h.n0;have B:=h.n1;have C:=h.len;unfold Qgt;refine Ok.mk' (by omega) (by omega) ?_;refine Ok.bind (P:=λp=>p.1.length=2 * l.length/\(∀a∈p.1,Qks l a)/\Full l p.1/\Qc4 l p.2) (Ok.loop (λg s=>∃i:Nat,s.1=i/\i+g=l.length/\s.2.1.length=2 * i/\(∀a∈s.2.1,Qks l a)/\(∀(k:Nat) e,k<i->l[k]?=some e->∀fw:Bool,∃a∈s.2.1,a.edge=k/\a.forward=(if fw=true then 1 else -1))/\s.2.2.length=l.length/\∀(k:Nat) e,k<i->l[k]?=some e->s.2.2[k]?=some e.Lo) l.length ⟨0,rfl,by omega,rfl,λa ha=>(by cases ha),λk e b=>absurd b (by omega),by simp,λk e b=>absurd b (by omega)⟩ λg s D=>?_) λp hp=>?_
  · obtain⟨i,t,K,z,j,m,o,q⟩:=D;obtain⟨M,N,fl⟩:=s;dsimp only at t z j m o q ⊢;subst t;refine Ok.ite (λhi=>?_) (λhi=>?_)
    · have hi:(i:Int)<l.length:=Zt hi;refine Ok.idx (by omega) hi λe E f=>?_;have f:l[i]?=some e:=by simpa using f
      have A:=h.edges e E;have O:=A.c0;have S:=A.c1;refine Ok.setAt (by omega) (by omega) (Ok.rm (by simp;omega) ?_);rw[w64 (n:=0 - e.Cost) (by omega) (by omega)];refine Ok.mk ⟨g - 1,by omega,i+1,by rw[w64 (by omega) (by omega)];rfl,by omega,by simp;omega,λa ha=>?_,λk e' b d fw=>?_,by rw[ZH];exact o,λk e' b d=>?_⟩
      · rcases ZB.1 ha with ha | ha
        · exact j a ha
        · have hx:l[((i:Int)).toNat]?=some e:=by simpa using f
          rcases Zp.1 ha with rfl | ha
          · exact⟨by dsimp only;omega,e,hx,.inl ⟨rfl,rfl,rfl,rfl⟩⟩
          · rw[Zg.1 ha];exact⟨by dsimp only;omega,e,hx,.inr ⟨rfl,rfl,rfl,by dsimp only;omega⟩⟩
      · by_cases r:k=i
        · subst r
          cases fw with
          | true=>exact⟨_,mem_append_right _ (Zq ..),rfl,rfl⟩
          | false=>exact⟨_,mem_append_right _ (Zz _ (Zq ..)),rfl,rfl⟩
        · obtain⟨a,ha,hb⟩:=m k e' (by omega) d fw;exact⟨a,mem_append_left _ ha,hb⟩
      · dsimp only;rw[getElem?_set];by_cases r:i=k
        · subst r;rw[f] at d;obtain rfl:=Zn d;rw[Zc (by omega),Zc (by omega)]
        · rw[Zb (by omega)];exact q k e' (by omega) d
    · have hi:¬(i:Int)<l.length:=ZA hi;have:i=l.length:=by omega
      subst this;refine Ok.mk ⟨z,j,λk e b fw=>m k e (Ze.1 b).1 b fw,o,λk e y b hy=>?_⟩;have:=q k e (Ze.1 b).1 b;dsimp only at hy;rw[this] at hy;obtain rfl:=Zn hy;exact⟨Zx _,(h.edges e (Zl b)).le⟩
  · obtain⟨T,F,H,I⟩:=hp;exact Ok.mk ⟨rfl,rfl,⟨h0,B,C,h.edges,I,F,by dsimp only;omega⟩,H⟩
theorem QvA (a:Qi->Int):∀{l:List Qi} {f:List Int},(∀e∈l,-1000<=a e/\a e<=1000)->(∀y∈f,0<=y/\y<=1000)->-1000000 * (l.length:Int)<=lin a l f
  | [],_,_,_=>by simp[lin]
  | e::l,[],_,_=>by simp[lin];omega
  | e::l,y::f,h1,h2=>by
    have g:=QvA a (l:=l) (f:=f) (λe b=>h1 e (by simp[b])) (λy hy=>h2 y (by simp[hy]));obtain⟨a1,a2⟩:=h1 e (by simp);obtain⟨d,j⟩:=h2 y (by simp);have:-1000 * y<=a e * y:=Int.mul_le_mul_of_nonneg_right a1 d;show _<=a e * y+lin a l f;simp only[Zk]
    push_cast
    omega
structure Best (n:Int) (l:List Qi) (f L:List Int):Prop where
  within:Qc4 l f
  circ:Circ l n f
  len:(L.length:Int)=n
  bd:∀v,0<=v->v<n->-100000000<=lv L v/\lv L v<=0
  slack:∀(k:Nat) e y,l[k]?=some e->f[k]?=some y->(y<e.Hi->lv L e.To<=lv L e.From+e.Cost)/\(e.Lo<y->lv L e.From<=lv L e.To - e.Cost)
theorem QwR {n:Int} {l:List Qi} (h:∀e∈l,QnR n e) {f:List Int} (hf:Qc4 l f):∀y∈f,0<=y/\y<=1000:=λy hy=>by
  obtain⟨k,g,rfl⟩:=mem_iff_getElem.1 hy;have d:k<l.length:=by rw[<-hf.1];exact g
  obtain⟨a,b⟩:=hf.2 k _ _ (Zd d) (Zd g);have j:=h _ (Zo d);have:=j.lo;have:=j.hi;omega
theorem QBX {n:Int} {l:List Qi} (h:Qqq n l) {g:List Int} (hg:Qc4 l g) (hc:Circ l n g):
    Ok (QfJ n l) (λr=>r.2.2=0/\Best n l r.1.Flow r.1.Level):=by
  unfold QfJ;rw[QBW h];simp only[Za];rw[Zb (by decide)];refine (QFs h).bind λx hx=>?_;obtain⟨x1,x2,o,N⟩:=hx;subst x1;subst x2;refine (QwP o N hg hc).bind λr O=>?_;obtain⟨r1,f,r2,r3,r4⟩:=O;rw[r1,r2];simp only[isEmpty_nil,Bool.not_true];rw[Zb (by decide)];have net:∀f,Qc4 x.l f->QdD (Qw.mk x.n x.l f x.arcs):=λf h=>⟨o.n0,o.n1,o.l1,o.edges,h,o.arcs,o.alen⟩;have low:∀f,Qc4 x.l f->-256000000<=lin (·.Cost) x.l f:=λf hf=>by have:=QvA (·.Cost) (l:=x.l) (f:=f) (λe he=>⟨(o.edges e he).c0,(o.edges e he).c1⟩) (QwR o.edges hf);have:=o.l1;omega
  refine Ok.bind (P:=λp=>p.2.1=0/\Best x.n x.l p.2.2.Flow p.2.2.Level) (Ok.loop (λk s=>s.1=x.n/\s.2.1=x.l/\s.2.2.1=x.arcs/\Qc4 x.l s.2.2.2/\Circ x.l x.n s.2.2.2/\lin (·.Cost) x.l s.2.2.2+256000000=k) (lin (·.Cost) x.l f+256000000).toNat ⟨rfl,rfl,rfl,r3,r4,by have:=low f r3;dsimp only;omega⟩ λk s hs=>?_) λp hp=>Ok.mk hp;obtain⟨h1,h2,h3,S,T,h6⟩:=hs;obtain⟨n',l',ar,U⟩:=s;dsimp only at h1 h2 h3 S T h6 ⊢;subst h1;subst h2;subst h3;have hy:=net U S;refine (Qzw hy).bind λr O=>?_;rcases O with⟨hn,hl⟩ | ⟨m,hm,X⟩
  · rw[hn];refine Ok.mk ⟨rfl,S,T,hl.1,hl.2.1,λk e y M D=>?_⟩;have t:∀a:Qg,a.edge=k->room (Qw.mk x.n x.l U x.arcs) a=if a.forward>0 then e.Hi - y else y - e.Lo:=λa ha=>by
      have:a.edge.toNat=k:=by omega
      have D:U[k]?=some y:=D;unfold room;rw[this];dsimp only;rw[M,D]
    have A:∀a,a∈x.arcs->a.edge=k->(a.forward=1->a.from'=e.From/\a.to=e.To/\a.cost=e.Cost)/\(a.forward=-1->a.from'=e.To/\a.to=e.From/\a.cost=-e.Cost):=λa ha j=>by
      obtain⟨e',I,ho⟩:=(o.arcs a ha).ex;have:a.edge.toNat=k:=by omega
      rw[this,M] at I;obtain rfl:=Zn I;rcases ho with⟨B,C,d,Y⟩ | ⟨B,C,d,Y⟩
      · exact⟨λ_=>⟨C,d,Y⟩,λq=>(by rw[B] at q;cases q)⟩
      · exact⟨λq=>(by rw[B] at q;cases q),λ_=>⟨C,d,Y⟩⟩
    refine⟨λZ=>?_,λZ=>?_⟩
    · obtain⟨a,ha,j,b⟩:=N k e M true;rw[Zc rfl] at b;obtain⟨B,C,d⟩:=(A a ha j).1 b;have:=hl.2.2 a ha (by rw[t a j,b,Zc (by decide)];omega);rw[B,C,d] at this;exact this
    · obtain⟨a,ha,j,b⟩:=N k e M false;rw[Zb (by decide)] at b;obtain⟨B,C,d⟩:=(A a ha j).2 b;have:=hl.2.2 a ha (by rw[t a j,b,Zb (by decide)];omega);rw[B,C,d] at this;dsimp only;omega
  · rw[hm];obtain⟨w,c,p,E,w0,wp,K⟩:=X;simp only[Option.isNone_some];rw[Zb (by decide)];have z:=Qvt hy E (most:=1000) (by decide);rw[w0,wp] at z;refine z.bind λq hq=>?_;obtain⟨B,C,d⟩:=hq;have hw:=d.flow;have F:=Quq E d;dsimp only at F hw;have H:Circ x.l x.n q.2.flow:=λv v0 v1=>by
      have:=Qrz E d v;rw[w0,wp] at this;have a0:=T v v0 v1;dsimp only at this;rw[this,a0,Int.sub_self];omega
    have a2:=low q.2.flow hw;have a1:q.1 * psum (λi=>(c i).cost) p<=-1:=by have:q.1 * psum (λi=>(c i).cost) p<=q.1 * (-1):=Int.mul_le_mul_of_nonneg_left K (by omega);omega
    exact Ok.mk ⟨(lin (·.Cost) x.l q.2.flow+256000000).toNat,by omega,d.n,d.l,d.arcs,hw,H,by dsimp only;omega⟩

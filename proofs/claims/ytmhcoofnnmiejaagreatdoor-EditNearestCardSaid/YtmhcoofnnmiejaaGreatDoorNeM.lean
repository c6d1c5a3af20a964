/- EditNearest: the law holds of the functions that the code computes. No condition. -/
import Derived.Test.YtmhcoofnnmiejaaGreatDoorBdC
import Derived.Test.YtmhcoofnnmiejaaGreatDoorEvalB
set_option linter.all false
open List Go.IntKind
namespace Go.Proofs.YtmhcoofnnmiejaaGreatDoor
open Go.Sim
variable {j:Nat} {vs:List Int} {lo:Int} {hi:Int}
section
variable {x:Qc} {co c:Nat->Nat} {old W:Wd} {k i:Nat}
theorem QCe {g f:Nat} (a:g<f) (b:isV x k g=true):QeK x k g<QeK x k f:=(Ze.1 (fr_at (isV x k) a b)).1
theorem Qw1 (a:j<(vals x k).length):QeK x k ((vals x k).getD j 0)=j:=by
  obtain⟨d,e⟩:=QjD a;obtain⟨f,b⟩:=QtG d e;rcases Nat.lt_trichotomy (QeK x k ((vals x k).getD j 0)) j with h | h | h
  · exact (Qpj a h b).elim
  · exact h
  · exact (Qpj f h b.symm).elim
theorem QtR (W:Wd):(rowV x k i W).length=(vals x k).length:=by unfold rowV;rw[Yd]
theorem QCf {W:Wd} (a:j<(vals x k).length):(rowV x k i W).getD j 0=g3 W k i ((vals x k).getD j 0):=by unfold rowV;rw[Zh,Ye,Zh,Zd a];rfl
theorem QtS {o:Int} (h:lo<=hi):lo<=Qkw o lo hi/\Qkw o lo hi<=hi:=by
  unfold Qkw imin;split
  · omega
  · split<;>omega
theorem QCg {o v:Int} (h:v=Qkw o lo hi) (a:o<v):v=lo:=by
  unfold Qkw imin at h;split at h
  · exact h
  · split at h<;>omega
theorem QCh {o v:Int} (h:v=Qkw o lo hi) (a:v<o):v=hi:=by
  unfold Qkw imin at h;split at h
  · omega
  · split at h<;>omega
theorem QzX (a:j<vs.length):vs.take (j+1)=vs.take j++[vs.getD j 0]:=by rw[Zw a,Zh,Zd a];rfl
theorem QtT {m:Nat} (hm:((vals x k).length:Int)=(m:Int) - 1) (d:QdK m (dfS x k)) (b:negB m (tP m (dfS x k))=false) (e:Qgh x old co k i (tab m (tP m (dfS x k))) W):∀j,j<=(vals x k).length->Qqr m (tP m (dfS x k)) ((rowV x k i W).take j)
  | 0,_=>QzR d.m1 (Qjk.1 b)
  | j+1,hj=>by
    have h:=QtT hm d b e j (by omega);obtain⟨f,g⟩:=e j (by omega);obtain⟨_,a,_⟩:=QwY f;rw[QzX (by rw[QtR];omega)];refine QwZ (Qjk.1 b) h f ?_ ?_
    · rw[g];split
      · exact (QtS a).1
      · exact Zx _
    · rw[g];split
      · exact (QtS a).2
      · exact a
theorem QtU (a:j<(vals x k).length) {d:QH} (h:d∈Qjj x k j):d∈dfS x k:=by unfold dfS;rw[Yj];exact mem_append_left _ (Yb.2 ⟨j,Ym.2 a,h⟩)
theorem QzY (t:Gx x) (u:Qbb x=[]) (r:k<x.Xa.length) {m:Nat} (hm:((vals x k).length:Int)=(m:Int) - 1) (hl:vs.length=(vals x k).length) (s:SolE m (vv m vs) (dfS x k)):∀j,j<(vals x k).length->-(1000 * ((j:Int)+1))<=vs.getD j 0/\vs.getD j 0<=1000 * ((j:Int)+1):=by
  intro j
  induction j using Nat.strongRecOn with
  | _ j v=>
    intro f;obtain⟨hf,z⟩:=QjD f;have hb:=t.fd r hf;have hp:=Qw1 f;have h:=s _ (QtU f (d:=⟨j,Qji x k ((vals x k).getD j 0),(fd x k ((vals x k).getD j 0)).Hi⟩) (by simp[Qjj]));have l:=s _ (QtU f (d:=⟨Qji x k ((vals x k).getD j 0),j,-(fd x k ((vals x k).getD j 0)).Lo⟩) (by simp[Qjj]));dsimp only at h l;rw[QhS] at h l;have e1:vv m vs j=vs.getD j 0:=Zb (by omega);rw[e1] at h l;have a:∃y,vv m vs (rowN m (Qji x k ((vals x k).getD j 0)))=y/\-(1000 * (j:Int))<=y/\y<=1000 * (j:Int):=by
      refine⟨_,rfl,?_⟩;unfold Qji;by_cases n:(fd x k ((vals x k).getD j 0)).Xi=4/\(fd x k ((vals x k).getD j 0)).Of≠[]
      · obtain⟨g,e,o,p,_⟩:=Qtv u r hf n.1 n.2;have q:isV x k g=true:=by unfold isV;rw[p];rfl
        have b:=QCe o q;rw[hp] at b;rw[Zc n,e,ZF,QhS];have e2:vv m vs (QeK x k g)=vs.getD (QeK x k g) 0:=Zb (by omega);rw[e2];have:=v _ b (by omega);omega
      · rw[Zb n,QiJ];have e2:vv m vs (m - 1)=0:=Zc rfl;rw[e2];omega
    obtain⟨y,w,hy⟩:=a;rw[w] at h l;omega
theorem QvQ {m:Nat} {i:Nat} (h:Seen m j i):vv m (vs.take j) i=vv m vs i:=by
  unfold vv;by_cases a:i=m - 1
  · rw[Zc a,Zc a]
  · rw[Zb a,Zb a];rcases h with h | h
    · rw[Zh,Zh,getElem?_take,Zc h]
    · exact (a h).elim
theorem QrK {m:Nat} {l:List QH} (b:QdK m l) (hl:l.length<=34) (hm:(vs.length:Int)=(m:Int) - 1) (g:j<=vs.length) (hb:∀j,j<vs.length->-100000<=vs.getD j 0/\vs.getD j 0<=100000):QdK m (l++Qff vs j):=by
  have f:=b.m11;refine⟨b.m1,f,by rw[Zf,Qlv];omega,λd a=>?_⟩;rcases ZB.1 a with a | a
  · exact b.ok d a
  · obtain⟨i,hi,e⟩:=Qj5.1 a;have:=hb i (by omega);rcases e with rfl | rfl<;>(dsimp only;omega)
theorem QzZ {m:Nat} {l:List QH} (a:QdK m l) (hl:l.length<=60) {d:QH} (b:-1<=d.A/\d.A<(m:Int) - 1/\-1<=d.B/\d.B<(m:Int) - 1/\d.A≠d.B/\-2097152<=d.N/\d.N<=2097152):QdK m (l++[d]):=⟨a.m1,a.m11,by simp;omega,λe f=>(ZB.1 f).elim (a.ok e) λh=>by rw[Zg.1 h];exact b⟩
theorem QFH (h:Old x co old) (I:Sh x.Xa.length c (nf x) W) (hv:Qld x co c old k W) (f:k<x.Xa.length) (hi:i<c k) (B:i<co k):
    Ok (Qr (λ(a:Int×List QH)=>((if (decide (a.1<((natI (vals x k)).length:Int)))=true then (idx W k).bind λt91=>(idx t91 i).bind λt94=>(if ((t94.length:Int) !=((kd x k).Xb.length:Int))=true then (some (.inr (.inr false))) else (idx W k).bind λt107=>(idx t107 i).bind λt110=>(idx (natI (vals x k)) a.1).bind λt114=>(idx t110 t114).bind λt116=>(idx old k).bind λt120=>(idx t120 i).bind λt123=>(idx (natI (vals x k)) a.1).bind λt127=>(idx t123 t127).bind λt129=>((if (decide (t129>t116))=true then (some (QH.mk (-1:Int) a.1 (i64.wrap ((i64.wrap (0 - t116)) - (1:Int))))) else (some (QH.mk a.1 (-1:Int) (i64.wrap (t116 - (1:Int))))))).bind λ(s:QH)=>(rm (([]:List QH).length+a.2.length)).bind λ_=>(rm ((([]:List QH)++a.2).length+[s].length)).bind λ_=>(QdI ((natI (vals x k)).length:Int) ((([]:List QH)++a.2)++[s])).bind λt152=>(if ((t129 !=t116)&&(t152.2 !=(14:Int)))=true then (some (.inr (.inr false))) else (rm (a.2.length+[(QH.mk a.1 (-1:Int) t116),(QH.mk (-1:Int) a.1 (i64.wrap (0 - t116)))].length)).bind λ_=>(some (.inl ((i64.wrap (a.1+(1:Int))),(a.2++[(QH.mk a.1 (-1:Int) t116),(QH.mk (-1:Int) a.1 (i64.wrap (0 - t116)))])))))) else (some (.inr (.inl a.2)))):Option ((Int×List QH)⊕((List QH)⊕(Bool))))) ((0:Int),dfS x k))
      (λe=>∃d,e=.inl d/\(Qgg ((vals x k).length:Int) d).2=0):=by
  have T:=h.gx.kd f;have U:=(QdZ h.clean).rules;have K:=QvF (x:=x) (k:=k) T.1 U;have a4:=QjE (x:=x) (k:=k);obtain⟨V,t⟩:=hv (by omega);obtain⟨m,hm,b,_,hn,hC⟩:=QrJ V;rw[hC] at t;have S:=t i hi;have kept:=QtT hm b hn S;have hlen:=QtR (x:=x) (k:=k) (i:=i) W;have X:∃vs,rowV x k i W=vs:=⟨_,rfl⟩;obtain⟨vs,L⟩:=X;have M:∀j,j<(vals x k).length->g3 W k i ((vals x k).getD j 0)=vs.getD j 0:=λj g=>by rw[<-L];exact (QCf g).symm
  unfold Qgh at S;rw[L] at S kept hlen;have u:SolE m (vv m vs) (dfS x k):=by have:=kept (vals x k).length (Zr _);rw[Zu (by omega)] at this;exact QzS b (by omega) this
  have Y:=QzY h.gx h.clean f hm hlen u;have hb:∀j,j<vs.length->-100000<=vs.getD j 0/\vs.getD j 0<=100000:=λj g=>by have:=Y j (by omega);omega
  have N:(vs.length:Int)=(m:Int) - 1:=by rw[hlen];exact hm
  refine Ok.cnt (vals x k).length (λj d=>d=dfS x k++Qff vs j) (by simp[Qff]) (λj d g C=>?_) λd C=>?_
  · subst C;have Z:=hb j (by omega);obtain⟨hf,a5⟩:=QjD g;obtain⟨t1,t2⟩:=S j g;rw[Zc B] at t2;have D:=ZU (i:=j) (l:=vs);have a0:(vs.take j).length=j:=by omega
    obtain⟨_,a6,_,p⟩:=QwY t1;have q:=(rg_hi t1).2;rw[a0] at p q;have r:=QrK b K N (show j<=vs.length by omega) hb;have a7:(dfS x k++Qff vs j).length<=52:=by rw[Zf,Qlv];omega
    have fl:=Qlv vs j;rw[QdF,QaC g];refine Ok.g1 I f (Ok.g2 I f hi ?_);rw[Zb (by rw[I.fld k i f hi];unfold nf;simp)];refine Ok.g1 I f (Ok.g2 I f hi ?_);rw[QjC g];dsimp only[Option.bind_some];refine Ok.g3 I f hi hf ?_;rw[M j g];refine Ok.g1 h.sh f (Ok.g2 h.sh f B (Ok.g3 h.sh f B hf ?_));generalize g3 old k i ((vals x k).getD j 0)=o at t2 ⊢;generalize a1:vs.getD j 0=v at t2 Z ⊢;have w1:i64.wrap (0 - v)=-v:=by rw[w64 (by omega) (by omega)];omega
    rw[w1,w64 (n:=-v - 1) (by omega) (by omega),w64 (n:=v - 1) (by omega) (by omega)];refine Ok.bind (P:=λd:QH=>(o>v->d=⟨-1,j,-v - 1⟩)/\(o<v->d=⟨j,-1,v - 1⟩)/\(d=⟨-1,j,-v - 1⟩\/d=⟨j,-1,v - 1⟩)) (Ok.ite (λw=>Ok.mk ⟨λ_=>rfl,λa2=>by have:=Zt w;omega,.inl rfl⟩) λw=>Ok.mk ⟨λa2=>by have:=ZA w;omega,λ_=>rfl,.inr rfl⟩) λd C=>?_;have a3:-1<=d.A/\d.A<(m:Int) - 1/\-1<=d.B/\d.B<(m:Int) - 1/\d.A≠d.B/\-2097152<=d.N/\d.N<=2097152:=by rcases C.2.2 with rfl | rfl<;>(dsimp only;omega)
    have E:=QzZ r (by omega) a3;refine Ok.rm (by simp;omega) (Ok.rm (by simp;omega) ?_);rw[Yj,Qpg,hm,QnX E];dsimp only[Option.bind_some];have z:∀y∈dfS x k,y∈(dfS x k++Qff vs j)++[d]:=λy hy=>mem_append_left _ (mem_append_left _ hy);have A:∀y∈Qff vs j,y∈(dfS x k++Qff vs j)++[d]:=λy hy=>mem_append_left _ (mem_append_right _ hy);have O:o≠v->negB m (tP m ((dfS x k++Qff vs j)++[d]))=true:=λhne=>by
      rcases Int.lt_or_gt_of_ne hne with D | Q
      · have F:v=(QbM (tab m (tP m (dfS x k))) (vs.take j)).1:=QCg t2 D;rw[<-F] at p;rcases p with p | ⟨i',R,H,e⟩
        · omega
        · refine QFE (vs:=vs) (j:=j) (v:=v) b E z A (by omega) (by rw[<-C.2.1 D];exact mem_append_right _ (mem_singleton_self _)) ⟨i',R,H,?_⟩;rw[<-QvQ R];exact e
      · have F:v=(QbM (tab m (tP m (dfS x k))) (vs.take j)).2.1:=QCh t2 Q;rw[<-F] at q;rcases q with q | ⟨i',R,H,e⟩
        · omega
        · refine QFF (vs:=vs) (j:=j) (v:=v) b E z A (by omega) (by rw[<-C.1 Q];exact mem_append_right _ (mem_singleton_self _)) ⟨i',R,H,?_⟩;rw[<-QvQ R];exact e
    refine Ok.ite (λw=>?_) λ_=>?_
    · exfalso;rw[Zi] at w;have hne:o≠v:=by simpa using w.1
      rw[Zc (O hne)] at w;exact absurd w.2 (by decide)
    · refine Ok.rm (by simp;omega) (Ok.mk ⟨QD g (by omega),?_⟩);dsimp only;rw[ZE,Qff,a1]
  · rw[QdF,QaE];refine Ok.mk ⟨d,rfl,?_⟩;subst C;have r:=QrK b K N (show (vals x k).length<=vs.length by omega) hb;rw[hm,QnX r,Zb];rw[QFD r (QzT (by omega) u (by omega))]
    decide
theorem QtV (l m k:List Int) (hl:∀x∈l,I64 x) (hm:∀x∈m,I64 x) (p:∀x∈k,I64 x):Qeb l m k=some true:=by
  have key:Ok (Qeb l m k) (λr=>r=true):=by
    unfold Qeb;refine (QBJ hl hm p).bind λr t=>?_;obtain⟨x,old,q,b⟩:=r;dsimp only at t ⊢;refine Ok.ite (λ_=>by rw[QmQ];exact Ok.mk rfl) λhb=>?_;obtain⟨y,A,⟨co,C,D,E⟩,z,s⟩:=t (by simpa using hb);have h:Old x co old:=⟨y,A,C,D,E⟩;have F:=h.kinds;have u:∀k,k<x.Xa.length->cN q k<=60:=λk p=>by have:=(s.2 k (by omega)).2;have:=Qlr s (k:=k) (by omega);have:=y.kd p;omega
    refine (QCd h z s).bind λr t=>?_;obtain⟨W,n,e⟩:=r;rcases t with⟨e0,o,B⟩ | v
    · dsimp only at e0 o B ⊢;subst e0;rw[Zb (by decide)];refine Ok.bind (P:=λe:Unit⊕Bool=>∃a,e=.inl a) (Ok.cnt0 W.length (λ_=>True) trivial (λk p _=>?_) λ_=>by rw[QaE];exact Ok.mk ⟨_,rfl⟩) λe w=>?_
      · have f:k<x.Xa.length:=by rw[<-o.len];exact p
        have I:=h.nf f;rw[QaC p,Qbl f];dsimp only[Option.bind_some];rw[QoR f (by omega)];dsimp only[Option.bind_some];refine Ok.bind (P:=λe:Unit⊕Bool=>∃a,e=.inl a) (Ok.cnt0 (min (cN q k) (co k)) (λ_=>True) trivial (λi hi _=>?_) λ_=>?_) λe w=>?_
        · have g:imin ((cN q k:Nat):Int) ((co k:Nat):Int)=((min (cN q k) (co k):Nat):Int):=by unfold imin;split<;>omega
          refine Ok.g1 o f (Ok.g1 h.sh f ?_);rw[o.row k f,h.sh.row k f,g,QaC hi,own_is y A f];dsimp only[Option.bind_some];have:=u k f;refine (QFH h o (B k f) f (show i<cN q k by omega) (show i<co k by omega)).bind λe w=>?_;obtain⟨d,rfl,H⟩:=w;dsimp only;rw[QdF,Qpg];dsimp only[Option.bind_some];rw[H,Zb (by decide)];exact Ok.mk ⟨QD hi (by omega),trivial⟩
        · have g:imin ((cN q k:Nat):Int) ((co k:Nat):Int)=((min (cN q k) (co k):Nat):Int):=by unfold imin;split<;>omega
          refine Ok.g1 o f (Ok.g1 h.sh f ?_);rw[o.row k f,h.sh.row k f,g,QaE];exact Ok.mk ⟨_,rfl⟩
        · obtain⟨a,rfl⟩:=w;exact Ok.mk ⟨QD p (by rw[o.len];omega),trivial⟩
      · obtain⟨a,rfl⟩:=w;dsimp only;rw[QmQ];exact Ok.mk rfl
    · dsimp only at v ⊢;subst v;rw[Zc (by decide),QmQ];exact Ok.mk rfl
  obtain⟨r,t,rfl⟩:=key;exact t
end

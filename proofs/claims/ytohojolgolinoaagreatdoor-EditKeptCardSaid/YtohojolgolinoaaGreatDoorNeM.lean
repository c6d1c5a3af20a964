/- EditNearest: the law holds of the functions that the code computes. No condition. -/
import Derived.Test.YtohojolgolinoaaGreatDoorBdG
import Derived.Test.YtohojolgolinoaaGreatDoorEvalB
set_option linter.all false
open List Go.IntKind
namespace Go.Proofs.YtohojolgolinoaaGreatDoor
open Go.Sim
variable {i j:Nat} {W:Wd} {α:Type} {vs:Lz} {V:Wd} {x:Qc} {c co:Nat->Nat} {old:Wd}
section
variable {k:Nat}
theorem Uo {g f:Nat} (a:g<f) (b:isV x k g=true):Au x k g<Au x k f:=(Zf.1 (fr_at (isV x k) a b)).1
theorem Ur (a:j<(vals x k).length):Au x k ((vals x k).getD j 0)=j:=by
  have⟨d,e⟩:=GA a;have⟨f,b⟩:=FT d e;rcases Nat.lt_trichotomy (Au x k ((vals x k).getD j 0)) j with h | h | h
  · exact (OY a h b).elim
  · exact h
  · exact (OY f h b.symm).elim
theorem Eg (W:Wd):(rowV x k i W).length=(vals x k).length:=by unfold rowV;rw[Yh]
theorem H3 {W:Wd} (a:j<(vals x k).length):(rowV x k i W).getD j 0=g3 W k i ((vals x k).getD j 0):=by unfold rowV;rw[Zg,Yc,Zg,Zd a];rfl
theorem Pz {o lo hi:Int} (h:lo<=hi):lo<=GE o lo hi/\GE o lo hi<=hi:=by
  unfold GE imin;split
  · omega
  · split<;>omega
theorem NL (a:j<vs.length):vs.take (j+1)=vs.take j++[vs.getD j 0]:=by rw[Zz a,Zg,Zd a];rfl
theorem Ut {m:Nat} (hm:((vals x k).length:Int)=(m:Int) - 1) (d:DD m (dfS x k)) (b:negB m (tP m (dfS x k))=false) (e:Ew x old co k i (tab m (tP m (dfS x k))) W):∀j,j<=(vals x k).length->IT m (tP m (dfS x k)) ((rowV x k i W).take j)
  | 0,_=>Z5 d.m1 (KN.1 b)
  | j+1,hj=>by
    have h:=Ut hm d b e j om;have⟨f,g⟩:=e j om;have⟨_,a,_⟩:=rg_lo f;rw[NL (by rw[Eg];omega)];apply Z6 (KN.1 b) h f
    · rw[g];split
      · exact (Pz a).1
      · exact Zx _
    · rw[g];split
      · exact (Pz a).2
      · exact a
theorem H4 (a:j<(vals x k).length) {d:QH} (h:d∈Cy x k j):d∈dfS x k:=by unfold dfS;rw[Yl];exact mem_append_left _ (Ya.2 ⟨j,Yd.2 a,h⟩)
theorem iS (t:Gx x) (hc:AN x=[]) (r:k<x.Xa.length) {m:Nat} (hm:((vals x k).length:Int)=(m:Int) - 1) (hl:vs.length=(vals x k).length) (s:SolE m (vv m vs) (dfS x k)):∀j,j<(vals x k).length->-(1010 * ((j:Int)+1))<=vs.getD j 0/\vs.getD j 0<=1010 * ((j:Int)+1):=by
  intro j
  induction j using Nat.strongRecOn with
  | _ j u=>
    intro f;have⟨hf,w⟩:=GA f;have hb:=t.fd r hf;have hp:=Ur f;have h:=s _ (H4 f (d:=⟨j,Bc x k ((vals x k).getD j 0),(fd x k ((vals x k).getD j 0)).Hi⟩) (by simp[Cy]));have l:=s _ (H4 f (d:=⟨Bc x k ((vals x k).getD j 0),j,-(fd x k ((vals x k).getD j 0)).Lo⟩) (by simp[Cy]));dsimp only at h l;rw[OT] at h l;have e1:vv m vs j=vs.getD j 0:=Zb om;rw[e1] at h l;have a:∃y,vv m vs (rowN m (Bc x k ((vals x k).getD j 0)))=y/\-(1010 * (j:Int))<=y/\y<=1010 * (j:Int):=by
      refine⟨_,rfl,?_⟩;unfold Bc;by_cases n:(fd x k ((vals x k).getD j 0)).Xi=4/\(fd x k ((vals x k).getD j 0)).Of≠[]
      · have⟨g,e,o,p,_⟩:=HU hc r hf n.1 n.2;have q:isV x k g=true:=by unfold isV;rw[p];rfl
        have b:=Uo o q;rw[hp] at b;rw[Zc n,e,Zu,OT];have e2:vv m vs (Au x k g)=vs.getD (Au x k g) 0:=Zb om;rw[e2];have:=u _ b om;omega
      · rw[Zb n,Sg];have e2:vv m vs (m - 1)=0:=Zc rfl;rw[e2];omega
    have⟨y,v,hy⟩:=a;rw[v] at h l;omega
theorem iT {m:Nat} {i:Nat} (h:Seen m j i):vv m (vs.take j) i=vv m vs i:=by
  unfold vv;by_cases a:i=m - 1
  · rw[Zc a,Zc a]
  · rw[Zb a,Zb a];rcases h with h | h
    · rw[Zg,Zg,getElem?_take,Zc h]
    · exact (a h).elim
end
theorem iU {m:Nat} {l:List QH} {p:Lz} (t:DD m l) (hl:p.length=m - 1) (v:SolE m (vv m p) l) (hb:∀j,j<p.length->-1000000<=p.getD j 0/\p.getD j 0<=1000000) (B:j<p.length):
    (Ac (tab m (tP m l)) (p.take j)).2.2=0/\(Ac (tab m (tP m l)) (p.take j)).1<=p.getD j 0/\p.getD j 0<=(Ac (tab m (tP m l)) (p.take j)).2.1:=by
  have C:=t.m11;have N:INF=1099511627776:=rfl;have hlen:(p.take j).length=j:=by rw[ZY];omega
  have vb:∀i,i<m->-1000000<=vv m p i/\vv m p i<=1000000:=λi hi=>by
    unfold vv;split
    · omega
    · exact hb i om
  have b:¬badT (tab m (tP m l)) (p.take j)=true:=by
    unfold badT;rw[DE];simp only[ZG,Zk,not_or];refine⟨⟨om,om⟩,?_,?_⟩
    · rw[Ye,any_eq_false];intro y hy;obtain⟨i,hi,rfl⟩:=mem_iff_getElem.1 (mem_of_mem_take hy);have:=hb i hi;rw[Zg,Zd hi] at this;simp only[ZS] at this;rw[Ye,KZ];omega
    · rw[Ye,any_eq_false];intro r D;obtain⟨i,hi,rfl⟩:=ZR.1 D;rw[Yd] at hi;rw[Ye];unfold ED;simp only[Bool.or_eq_false_iff];refine⟨by rw[Es];simp,?_⟩;rw[any_eq_false];intro y hy;obtain⟨q,a,rfl⟩:=ZR.1 hy;rw[Yd] at a;have w:=(KK t).hi i q hi a;rw[Ye,KZ];by_cases hf:tP m l i q<INF
      · have:=Sf t v hi a hf;have:=vb i hi;have:=vb q a;omega
      · omega
  generalize E:tP m l=G at b ⊢;have kept:∀i q,i<m->q<m->G i q<INF->vv m p i<=vv m p q+G i q:=λi q hi a hf=>by rw[<-E] at hf ⊢;exact Sf t v hi a hf
  generalize u:p.take j=vs at b hlen ⊢;have o:vs.length+1<m:=by omega
  have z:∀i,Seen m vs.length i->vv m vs i=vv m p i:=λi hi=>by rw[<-u];exact iT (by rw[hlen] at hi;exact hi)
  have sm:∀i,Seen m vs.length i->i<m:=λi hi=>by unfold Seen at hi;omega
  have A:vv m p vs.length=p.getD j 0:=by rw[hlen];exact Zb om
  have h:∀q,q<vs.length+1->at2B (tab m G) (AM (tab m G) vs q) vs.length=G (AM (tab m G) vs q) vs.length:=λq a=>Kb (Dd o a).2.1 om;have n:∀q,q<vs.length+1->at2B (tab m G) vs.length (AM (tab m G) vs q)=G vs.length (AM (tab m G) vs q):=λq a=>Kb om (Dd o a).2.1;have F:∀q,q<vs.length+1->i64.wrap (A6 vs q - at2B (tab m G) (AM (tab m G) vs q) vs.length)=vv m vs (AM (tab m G) vs q) - G (AM (tab m G) vs q) vs.length:=by intro q a;have w:=Ka b q;have H:=KQ b (AM (tab m G) vs q) vs.length;rw[w64 om om,h q a,(Dd (G:=G) o a).2.2]
  have I:∀q,q<vs.length+1->i64.wrap (A6 vs q+at2B (tab m G) vs.length (AM (tab m G) vs q))=vv m vs (AM (tab m G) vs q)+G vs.length (AM (tab m G) vs q):=by intro q a;have w:=Ka b q;have H:=KQ b vs.length (AM (tab m G) vs q);rw[w64 om om,n q a,(Dd (G:=G) o a).2.2]
  have K:=hb j B;have lo:(loB (tab m G) vs (vs.length+1)).2<=p.getD j 0:=by
    by_cases s:loF (tab m G) vs (vs.length+1)=[]
    · unfold loB;rw[s];show (-1099511627776:Int)<=_;omega
    · have⟨q,a,f,e⟩:=SQ (OR (d:=-1099511627776) s).2;rw[F q a] at e;rw[h q a] at f;have g:=(Dd (G:=G) o a).1;have:=kept _ _ (sm _ g) om f;rw[A,<-z _ g] at this;unfold loB;rw[e];omega
  have hi:p.getD j 0<=(hiB (tab m G) vs (vs.length+1)).2:=by
    by_cases s:hiF (tab m G) vs (vs.length+1)=[]
    · unfold hiB;rw[s];show _<=(1099511627776:Int);omega
    · have⟨q,a,f,e⟩:=Sa (OS (d:=1099511627776) s).2;rw[I q a] at e;rw[n q a] at f;have g:=(Dd (G:=G) o a).1;have:=kept _ _ om (sm _ g) f;rw[A,<-z _ g] at this;unfold hiB;rw[e];omega
  have M:Ac (tab m G) vs=((loB (tab m G) vs (vs.length+1)).2,(hiB (tab m G) vs (vs.length+1)).2,0):=by unfold Ac;rw[Zb b,DE,Zb (by rw[Zk];omega),Zb (by rw[Zk];omega)]
  rw[M];exact⟨rfl,lo,hi⟩
theorem Uu {o lo hi:Int} (a:lo<=o) (b:o<=hi):GE o lo hi=o:=by unfold GE imin;rw[Zb om];split<;>omega
def SolV (x:Qc) (k:Nat) (vs:Lz):Prop:=SolE ((vals x k).length+1) (vv ((vals x k).length+1) vs) (dfS x k)
theorem Uv {x:Qc} (hc:AN x=[]) {r:QL} (a:r∈x.Xc):-1048576<=r.N/\r.N<=1048576:=by have h:=(Ce hc).rule r a;unfold BF inW at h;simp only[Zh,Zk] at h;omega
theorem iV {m:Nat} {l:List QH} (a:DD m l) (b:negB m (tP m l)=false):EC ((m:Int) - 1) l=(tab m (tP m l),0):=by
  have h:=a.m1;have f:=a.m11;have hl:=a.len;have e:((m:Int) - 1+1).toNat=m:=by omega
  have e2:Bn ((m:Int) - 1) l=0:=by unfold Bn;rw[Zb (by simp only[ZG,Zk];omega),Zb (by rw[Zk];omega),Zb];rw[Ye,any_eq_false];intro d g;have:=a.ok d g;unfold badD;simp only[ZG,Zk,Yj];omega
  unfold EC;rw[Zb (by rw[e2];simp),e,Zb (by rw[b];decide)]
theorem dfS_ok (m:Gx x) (hc:AN x=[]) {k:Nat} (u:k<x.Xa.length):DD ((vals x k).length+1) (dfS x k):=by
  have v:=m.kd u;have F:=Ce hc;have w:=F.rules;have H:=IV (x:=x) (k:=k);refine⟨om,om,by have:=aB (x:=x) (k:=k) v.1 w;omega,λd a=>?_⟩;have C:∀n,(n≠[]->∃g:Nat,AD (kd x k) n=g/\g<nf x k/\isV x k g=true/\(fd x k g).Xj=n)->-1<=Bo x k n/\Bo x k n<(vals x k).length/\(n≠[]->∃g:Nat,g<nf x k/\isV x k g=true/\(fd x k g).Xj=n/\Bo x k n=Au x k g)/\(n=[]->Bo x k n=-1):=λn h=>by
    unfold Bo;by_cases e:n=[]
    · rw[Zc e];exact⟨om,om,λq=>(q e).elim,λ_=>rfl⟩
    · have⟨g,e1,m,b,o⟩:=h e;rw[Zb e,e1,Zu];have:=(FT m b).1;exact⟨om,om,λ_=>⟨g,m,b,o,rfl⟩,λq=>(e q).elim⟩
  unfold dfS at a;rw[Yl] at a;rcases ZH.1 a with a | a
  · have⟨i,hi,a⟩:=Ya.1 a;rw[Yd] at hi;have⟨hf,I⟩:=GA hi;have hb:=m.fd u hf;have hp:=Ur hi;have K:-1<=Bc x k ((vals x k).getD i 0)/\Bc x k ((vals x k).getD i 0)<i:=by
      unfold Bc;by_cases s:(fd x k ((vals x k).getD i 0)).Xi=4/\(fd x k ((vals x k).getD i 0)).Of≠[]
      · have⟨g,e,y,z,_⟩:=HU hc u hf s.1 s.2;have b:isV x k g=true:=by unfold isV;rw[z];rfl
        have A:=Uo y b;rw[hp] at A;rw[Zc s,e,Zu];omega
      · rw[Zb s];omega
    unfold Cy at a;simp only[Zp,ZF,ZN] at a;rcases a with rfl | rfl<;>(dsimp only;omega)
  · have⟨i,hi,a⟩:=Ya.1 a;rw[Yd] at hi;unfold EF at a;rw[Zd hi] at a;dsimp only at a;by_cases f:Q3 x x.Xc[i].Xi=k
    · rw[Zc f,Zi] at a;subst a;have t:=Zr hi;have⟨a1,a2,a3,a4⟩:=C _ (HV hc t f (.inl rfl));have⟨M,Q,D,N⟩:=C _ (HV hc t f (.inr rfl));have⟨_,_,_,p,_⟩:=Kd hc t;have S:=Uv hc t;refine⟨a1,by dsimp only;omega,M,by dsimp only;omega,?_,by dsimp only;omega,by dsimp only;omega⟩;dsimp only;intro e;by_cases ha:x.Xc[i].A=[]
      · have:=a4 ha;by_cases hb:x.Xc[i].B=[]
        · exact p (by rw[ha,hb])
        · have⟨g,_,_,_,e2⟩:=D hb;omega
      · have⟨g,m,b,o,e1⟩:=a3 ha;by_cases hb:x.Xc[i].B=[]
        · have:=N hb;omega
        · have⟨g',B,r,l,e2⟩:=D hb;have O:Au x k g=Au x k g':=by omega
          have E:=(FT m b).2;have P:=(FT B r).2;rw[O,P] at E;rw[E] at l;exact p (by rw[<-o,<-l])
    · rw[Zb f] at a;cases a
theorem iW {xs a:List α} (h:a.length=xs.length):cpy xs a=a:=by unfold cpy;rw[Zw om,drop_of_length_le om,Yg]
theorem iX (h:Old x co old) (m:Sh x.Xa.length c (nf x) W) {k f u:Nat} (l:k<x.Xa.length) (hc:∀k,k<x.Xa.length->c k<=60) (hf:f<nf x k) (hu:upIx x k f=u) (E:u<k):
    Ok (NI ⟨x,old,W⟩ k f) (λr=>∃p,r.2=⟨x,old,p⟩/\Sh x.Xa.length c (nf x) p/\(r.1=0->Kp (B8 k (·=f)) W p/\RK (colW (c k) p k f) (c u) (fd x k f).Lo (fd x k f).Hi)/\(c k<=co k->RK (colW (c k) old k f) (c u) (fd x k f).Lo (fd x k f).Hi->r.1=0/\∀i,i<c k->g3 p k i f=g3 old k i f)):=by
  have w:=hc k l;have s:u<x.Xa.length:=by omega
  unfold NI;dsimp only;rw[AQ l];dsimp only[ob];rw[C0 hf];dsimp only[ob];apply Ok.g1 m l;rw[m.row k l,bT w];dsimp only[ob];rw[Sn h m l hf];dsimp only[ob];rw[GZ h.few,hu];dsimp only[ob];apply Ok.g1 m s;rw[m.row u s];generalize C:cpy (replicate (c k) (-1:Int)) (colW (min (co k) (c k)) old k f)=L;have hlen:L.length=c k:=by rw[<-C,Pq,Yr]
  have y:c k<=co k->L=colW (c k) old k f:=λn=>by rw[<-C,Nat.min_eq_right n,iW (by rw[GC,Yr])]
  have A:Ok (Dk L ((c u:Nat):Int) (fd x k f).Lo (fd x k f).Hi) (λr=>(r.2.2=0->r.1.length=c k/\RK r.1 (c u) (fd x k f).Lo (fd x k f).Hi)/\(c k<=co k->RK (colW (c k) old k f) (c u) (fd x k f).Lo (fd x k f).Hi->r.1=colW (c k) old k f/\r.2.2=0)):=by
    have⟨r,e,z⟩:=dG (old:=L) (to:=((c u:Nat):Int)) (lo:=(fd x k f).Lo) (hi:=(fd x k f).Hi) om;refine⟨r,e,λh0=>?_,λn B=>?_⟩
    · have⟨D,t,ht,v⟩:=z h0;have:t=c u:=by omega
      subst this;exact⟨om,v⟩
    · have⟨K,e',q⟩:=B.refs;rw[y n] at e;rw[e] at e';cases e';exact q
  refine A.bind λr z=>?_;have⟨D,v⟩:=z;refine Ok.ite (λhne=>Ok.mk ⟨W,rfl,m,λh0=>absurd (show (14:Int)=0 from h0) dc,λa b=>?_⟩) λF=>?_
  · rw[(v a b).2] at hne;cases hne
  have⟨r1,H⟩:=D (sa F);refine Ok.bind (P:=λV=>Sh x.Xa.length c (nf x) V/\Kp (B8 k (·=f)) W V/\∀i,i<c k->g3 V k i f=r.1.getD i 0) (Ok.cnt r.1.length (λi V=>Sh x.Xa.length c (nf x) V/\Kp (B8 k (·=f)) W V/\∀o,o<i->g3 V k o f=r.1.getD o 0) ⟨m,Kp.refl _ _,λi hi=>om⟩ (λi V hi hV=>?_) λV hV=>by rw[AK];exact Ok.mk ⟨hV.1,hV.2.1,λi hi=>hV.2.2 i om⟩) λV hV=>Ok.mk ⟨V,rfl,hV.1,λ_=>⟨hV.2.1,?_⟩,λa b=>⟨rfl,λi hi=>?_⟩⟩
  · have⟨v1,v2,v3⟩:=hV;have g:i<c k:=by omega
    rw[AL hi,Ai (d:=0) hi];dsimp only[ob];refine Ok.g1 v1 l (Ok.g2 v1 l g (Ok.g3 v1 l g hf (Ok.put v1 l g hf (Ok.mk ⟨QD hi om,v1.s l g,v2.step (v1.kp l g hf ⟨rfl,rfl⟩),λo I=>?_⟩))));rw[v1.g3s l g hf];by_cases e:o=i
    · rw[Zc ⟨rfl,e,rfl⟩,e]
    · rw[Zb (λq=>e q.2.1)];exact v3 o om
  · rw[aD r1 hV.2.2];exact H
  · rw[hV.2.2 i hi,(v a b).1,Kf hi]
theorem Uw (a:Gx x) (hc:AN x=[]) {k:Nat} (b:k<x.Xa.length) (hl:vs.length=(vals x k).length) (d:SolV x k vs):∀j,j<vs.length->-1000000<=vs.getD j 0/\vs.getD j 0<=1000000:=λj f=>by have g:=(a.kd b).1;have e:=IV (x:=x) (k:=k);have:=iS a hc b (m:=(vals x k).length+1) om hl d j om;omega
theorem iY (h:Old x co old) (D:Sh x.Xa.length c (nf x) W) {k:Nat} (d:k<x.Xa.length) (hc:c k<=60):
    Ok (JY ⟨x,old,W⟩ k) (λr=>∃H,r.2=⟨x,old,H⟩/\(r.1=0->Sh x.Xa.length c (nf x) H/\Kp (B8 k (λf=>isV x k f=true)) W H/\∀i,i<c k->SolV x k (rowV x k i H))/\(c k<=co k->(∀i,i<c k->SolV x k (rowV x k i old))->r.1=0/\∀i f,i<c k->f<nf x k->isV x k f=true->g3 H k i f=g3 old k i f)):=by
  have h9:=h.nf d;have a5:=IV (x:=x) (k:=k);unfold JY;dsimp only;apply Ok.g1 D d;rw[D.row k d];refine Ok.ite (λh0=>Ok.mk ⟨W,rfl,λ_=>⟨D,Kp.refl _ _,λi hi=>?_⟩,λ_ _=>⟨rfl,λi f hi=>?_⟩⟩) λh0=>?_
  · have:((c k:Nat):Int)=0:=by simpa using h0
    omega
  · have:((c k:Nat):Int)=0:=by simpa using h0
    omega
  have I:0<c k:=by
    have:((c k:Nat):Int)≠0:=by simpa using h0
    omega
  rw[aC h.gx h.clean d];dsimp only[ob];rw[IU,Y6];dsimp only[ob];have t:=dfS_ok h.gx h.clean d;have em:(((vals x k).length:Nat):Int)=(((vals x k).length+1:Nat):Int) - 1:=by omega
  refine Ok.ite (λhne=>Ok.mk ⟨W,rfl,λw=>absurd (show (14:Int)=0 from w) dc,λa b=>?_⟩) λw=>?_
  · rw[em,iV t (Z4 t (b 0 I))] at hne;cases hne
  have Z:(EC ((vals x k).length:Int) (dfS x k)).2=0:=by simpa using w
  have⟨m,hm,hv,_,hn,hC⟩:=Z1 Z;have a0:m=(vals x k).length+1:=by omega
  subst a0;rw[hC];apply Ok.g1 D d;rw[D.row k d];generalize S:tab ((vals x k).length+1) (tP ((vals x k).length+1) (dfS x k))=T;have rg:(∀i,i<c k->SolV x k (rowV x k i old))->∀i,i<c k->∀j,j<(vals x k).length->(Ac T ((rowV x k i old).take j)).2.2=0/\(Ac T ((rowV x k i old).take j)).1<=g3 old k i ((vals x k).getD j 0)/\g3 old k i ((vals x k).getD j 0)<=(Ac T ((rowV x k i old).take j)).2.1:=λb i hi j l=>by rw[<-S,<-H3 l];exact iU t (by rw[Eg];omega) (b i hi) (Uw h.gx h.clean d (Eg _) (b i hi)) (by rw[Eg];exact l)
  have tl:T.length=(vals x k).length+1:=by rw[<-S,DE]
  have tr:∀r∈T,r.length<1000000:=λr z=>by rw[<-S] at z;obtain⟨a,_,rfl⟩:=ZR.1 z;rw[Es];omega
  refine Ok.bind (P:=λe:Wd⊕Int×Wd=>match e with | .inl V=>Sh x.Xa.length c (nf x) V/\Kp (B8 k (λf=>isV x k f=true)) W V/\(∀i,i<c k->Ew x old co k i T V)/\(c k<=co k->(∀i,i<c k->SolV x k (rowV x k i old))->∀i,i<c k->rowV x k i V=rowV x k i old) | .inr p=>p.1=14/\¬(c k<=co k/\∀i,i<c k->SolV x k (rowV x k i old)))
    (Ok.cnt (c k) (λi V=>Sh x.Xa.length c (nf x) V/\Kp (B8 k (λf=>isV x k f=true)) W V/\(∀n,n<i->Ew x old co k n T V)/\(c k<=co k->(∀i,i<c k->SolV x k (rowV x k i old))->∀n,n<i->rowV x k n V=rowV x k n old)) ⟨D,Kp.refl _ _,λi hi=>om,λ_ _ i hi=>om⟩ (λi V hi hV=>?_) λV hV=>by rw[AK];exact Ok.mk hV) λe w=>?_
  · have⟨v1,v2,v3,v4⟩:=hV;rw[AL hi];refine Ok.g1 v1 d (Ok.g2 v1 d hi ?_);refine Ok.bind (P:=λe:Wd⊕Int×Wd=>match e with | .inl U=>Sh x.Xa.length c (nf x) U/\Kp (λX n f=>X=k/\n=i/\isV x k f=true) V U/\Ew x old co k i T U/\(c k<=co k->(∀i,i<c k->SolV x k (rowV x k i old))->rowV x k i U=rowV x k i old) | .inr p=>p.1=14/\¬(c k<=co k/\∀i,i<c k->SolV x k (rowV x k i old)))
      (Ok.cnt (vals x k).length (λj s=>Sh x.Xa.length c (nf x) s.2/\Kp (λX n f=>X=k/\n=i/\isV x k f=true) V s.2/\s.1.length=j/\(∀g,g<j->s.1.getD g 0=g3 s.2 k i ((vals x k).getD g 0))/\(∀g,g<j->So x old co k i T (s.1.take g) g (s.1.getD g 0))/\(c k<=co k->(∀i,i<c k->SolV x k (rowV x k i old))->s.1=(rowV x k i old).take j))
        ⟨v1,Kp.refl _ _,rfl,λj l=>om,λj l=>om,λ_ _=>rfl⟩ (λj s l hs=>?_) λs hs=>?_) λe w=>?_
    · obtain⟨some,U⟩:=s;have⟨o,u2,K,E,Y,F⟩:=hs;dsimp only at o u2 K E Y F ⊢;have⟨hf,A⟩:=GA l;have a1:∀g,g<j->(vals x k).getD g 0≠(vals x k).getD j 0:=λg B=>OY l B;rw[AL l,Sj l];dsimp only[ob];rw[Y7 _ _ om om tr];dsimp only[ob];refine Ok.ite (λhne=>Ok.mk ⟨rfl,λab=>?_⟩) λz=>?_
      · rw[F ab.1 ab.2,(rg ab.2 i hi j l).1] at hne;cases hne
      have a2:(Ac T some).2.2=0:=by simpa using z
      apply Ok.g1 h.sh d;rw[h.sh.row k d];refine Ok.bind (P:=λv=>v=if i<co k then GE (g3 old k i ((vals x k).getD j 0)) (Ac T some).1 (Ac T some).2.1 else (Ac T some).1) (Ok.ite (λa3=>?_) λa4=>Ok.mk ?_) λv M=>?_
      · have u:i<co k:=by have:=Zt a3;omega
        refine Ok.g1 h.sh d (Ok.g2 h.sh d u (Ok.g3 h.sh d u hf ?_));rw[S3];exact Ok.mk (by rw[Zc u];rfl)
      · rw[Zb];have:=Zy a4;omega
      · refine Ok.g1 o d (Ok.g2 o d hi (Ok.g3 o d hi hf (Ok.put o d hi hf (Ok.rm so (Ok.mk ⟨QD l om,o.s d hi,u2.step (o.kp d hi hf ⟨rfl,rfl,A⟩),by simp[K],λg B=>?_,λg B=>?_,λa b=>?_⟩)))))
        · dsimp only;rw[Kq,o.g3s d hi hf];by_cases e:g<j
          · rw[Zc om,Zb (λq=>a1 g e q.2.2)];exact E g e
          · have:g=j:=by omega
            subst this;rw[Zb om,Zc om,Zc ⟨rfl,rfl,rfl⟩]
        · dsimp only;rw[Kq];by_cases e:g<j
          · rw[Zc om,take_append_of_le_length om];exact Y g e
          · have:g=j:=by omega
            subst this;rw[Zb om,Zc om,take_append_of_le_length om,Zw om];exact⟨a2,M⟩
        · dsimp only;have⟨_,N,O⟩:=rg b i hi j l;rw[<-F a b] at N O;rw[NL (by rw[Eg];exact l),<-F a b,M,Zc om,Uu N O,H3 l]
    · rw[AK];have⟨o,u2,K,E,Y,F⟩:=hs;have e:rowV x k i s.2=s.1:=by
        refine ext_getElem? λj=>?_;unfold rowV;rw[Yc];by_cases l:j<(vals x k).length
        · have e1:=E j l;rw[Zg,Zg,Zd l,Zd (show j<s.1.length by omega)] at e1;rw[Zd l,Zd (show j<s.1.length by omega),Yb];simp only[ZS] at e1;rw[e1]
        · rw[getElem?_eq_none om,getElem?_eq_none om];rfl
      refine Ok.mk ⟨o,u2,λj l=>?_,λa b=>?_⟩
      · rw[e];exact Y j l
      · rw[e,F a b,Zw (by rw[Eg];omega)]
    · cases e with
      | inr p=>exact Ok.mk w
      | inl U=>
        have⟨o,u2,K,E⟩:=w;refine Ok.mk ⟨QD hi om,o,v2.step (u2.Xo λX n f y=>⟨y.1,y.2.2⟩),λn C=>?_,λa b n C=>?_⟩
        · rcases Nat.lt_succ_iff_lt_or_eq.1 C with y | y
          · exact (v3 n y).kp u2 λf _ hA=>by omega
          · subst y;exact K
        · rcases Nat.lt_succ_iff_lt_or_eq.1 C with y | y
          · rw[<-v4 a b n y];exact Kh λf hf=>u2 k n f λhA=>by omega
          · subst y;exact E a b
  · cases e with
    | inl V=>
      have⟨v1,v2,v3,v4⟩:=w;refine Ok.mk ⟨V,rfl,λ_=>⟨v1,v2,λi hi=>?_⟩,λa b=>⟨rfl,λi f hi hf A=>?_⟩⟩
      · have z:=v3 i hi;rw[<-S] at z;have Q:=Ut om t hn z (vals x k).length (Zq _);rw[Zw (by rw[Eg];omega)] at Q;exact Z7 t (by rw[Eg];omega) Q
      · have:=v4 a b i hi;have⟨hp,e⟩:=FT hf A;have e1:=H3 (i:=i) (W:=V) hp;have e2:=H3 (i:=i) (W:=old) hp;rw[e] at e1 e2;rw[<-e1,<-e2,this]
    | inr p=>exact Ok.mk ⟨p.2,rfl,λh0=>by have a6:=w.1;have a7:p.1=0:=h0;omega,λa b=>(w.2 ⟨a,b⟩).elim⟩
theorem iZ {s:Lz} {f:Int->Option Bool} {p:Int->Bool} (b:s.length<=1000000) (hf:∀x∈s,f x=some (p x)):Hy s f=some (AV s p):=by
  unfold Hy;rw[Eh s p (λk a=>?_) ?_]
  · unfold AV;cases s.findIdx? p<;>rfl
  · rw[Zb sm]
  · rw[Zc (sa a),QY a];show (f s[k]).bind _=_;rw[hf _ (Zr a),QD a om];rfl
theorem Ux {l:Lz} {f:Int->Option Bool} {p:Int->Bool} (hf:∀n,f n=some (p n)) (hl:l.length<=1) (d:∃n:Nat,n<12/\p n=true):Ok (JH f l) (λv=>p v=true/\∀o,l=[o]->p o=true->v=o):=by
  unfold JH;rw[iZ (p:=p) om λn _=>hf n];dsimp only[ob];have r:AV l p=-1->(∀o,l=[o]->p o=true->False)->Ok (if decide (AV l p>=0) then (idx l (AV l p)).bind λt=>some t else (Qr (λ(b:Int)=>((f b).bind λt18=>(if (!t18)&&(decide (b<(12:Int))) then some (.inl (i64.wrap (b+(1:Int)))) else some (.inr b)):Option (Int⊕Int))) (0:Int)).bind λ(g:Int)=>some g) (λv=>p v=true/\∀o,l=[o]->p o=true->v=o):=λe m=>by
    rw[e,Zb dc];refine Ok.bind (P:=λv=>p v=true) (Ok.loop (λn s=>0<=s/\s+n=12/\∀q:Nat,(q:Int)<s->p q=false) 12 ⟨dc,dc,λq w=>om⟩ λn s u=>?_) λv y=>Ok.mk ⟨y,λo h a=>(m o h a).elim⟩;rw[hf];refine Ok.ite (λh=>?_) λh=>Ok.mk ?_
    · rw[Zh,Yk,Zk] at h;rw[w64 (n:=s+1) om om];refine Ok.mk ⟨n - 1,om,om,om,λq w=>?_⟩;by_cases e:(q:Int)=s
      · rw[e];exact h.1
      · exact u.2.2 q om
    · cases hp:p s with
      | true=>exact hp
      | false=>rw[hp,Bool.not_false,Bool.true_and,ZI] at h;have⟨z,A,a⟩:=d;have:=u.2.2 z om;rw[a] at this;cases this
  match l,hl with
  | [],_=>exact r rfl λo h=>by cases h
  | [o],_=>
    cases hp:p o with
    | true=>
      have e:AV [o] p=0:=by unfold AV;rw[findIdx?_cons,hp];rfl
      rw[e,Zc dc];exact Ok.mk ⟨hp,λo' h _=>by cases h;rfl⟩
    | false=>exact r (by unfold AV;rw[findIdx?_cons,hp];rfl) λo' h a=>by cases h;rw[hp] at a;cases a
def pI [Inhabited α] (l:List α) (g:α->Bool) (n:Int):Bool:=(decide (n>=0)&&decide (n<(l.length:Int)))&&g (l.getD n.toNat default)
theorem Uy [Inhabited α] {l:List α} {n:Int} (g:α->Bool):((opt (((decide (n>=(0:Int)))&&(decide (n<(l.length:Int))))==true) (idx l n) default).bind λt=>(some (((decide (n>=(0:Int)))&&(decide (n<(l.length:Int))))&&g t):Option Bool))=some (pI l g n):=by
  unfold pI
  cases h:((decide (n>=(0:Int)))&&(decide (n<(l.length:Int)))) with
  | false=>rfl
  | true=>simp only[Zh,Zk] at h;obtain⟨m,rfl⟩:=ZB h.1;show (idx l (m:Int)).bind _=_;rw[Ai (d:=default) om];rfl
theorem Gl [Inhabited α] {l:List α} {g:α->Bool} {v:Int}:pI l g v=true↔∃n:Nat,v=n/\n<l.length/\g (l.getD n default)=true:=by
  unfold pI;simp only[Zh,Zk];constructor
  · rintro ⟨⟨d,b⟩,a⟩;exact⟨v.toNat,om,om,a⟩
  · rintro ⟨n,rfl,b,a⟩;exact⟨⟨om,om⟩,by rw[Zu];exact a⟩
theorem Uz:∀{l:Lz},(∀v∈l,0<=v)->0<l.sum->∃n:Nat,n<l.length/\0<l.getD n 0
  | [],_,h=>by simp at h
  | a::l,hn,h=>by
    by_cases ha:0<a
    · exact⟨0,sm,ha⟩
    · have h0:=hn a sm;rw[sum_cons] at h;have⟨n,e,b⟩:=Uz (l:=l) (λv d=>hn v (by simp[d])) om;exact⟨n+1,so,b⟩
theorem Uq {f:Qe} (h:AH f=true) (b:f.Xi=3):f.Xf.length<=12/\f.Words.length=f.Xf.length/\∃n:Nat,n<12/\pI f.Xf (λt=>decide (t>0)) n=true:=by have hp:=(EJ h).pick b;unfold AH Av at h;simp only[Zh] at h;have a:=h.2;rw[Zb om,Zb om,Zb om,Zc b] at a;unfold DT inW at a;simp only[Zh,ZD,Zk] at a;have⟨n,d,e⟩:=Uz (l:=f.Xf) (λv g=>(a.1 v g).1) (by have:=a.2.1.2;omega);refine⟨om,hp.1,n,om,Gl.2 ⟨n,rfl,d,?_⟩⟩;rw[Zk];exact e
theorem P0 {x:Qc} {k f:Nat} (hc:AN x=[]) (d:k<x.Xa.length) (hf:f<nf x k) (l:(fd x k f).Xi=8) {u:Nat} (hu:upIx x (k:Int) (f:Int)=u) (m:u<k):∃g:Nat,AD (kd x u) (fd x k f).Of=g/\g<nf x u/\(fd x u g).Xi≠6:=by
  have h:=GH hc d hf;unfold Be at h;rw[Zb om,Zb om,Zb om,Zb om,Zb om,Zb om,Zc l] at h;have⟨_,h⟩:=CN h dc;have⟨h,p⟩:=CN h dc;rw[Bool.or_eq_false_iff] at h;have b:=h.1;have a:=h.2;unfold topS at b a;rw[hu,Zb om,AQ om] at b a;dsimp only at b a
  cases e:field? x (u:Int) (AD (kd x u) (fd x k f).Of) with
  | none=>rw[e] at b;cases b
  | some g=>rw[e] at a;obtain⟨j,e1,n,rfl⟩:=Kj e;refine⟨j,e1,n,λo=>?_⟩;dsimp only at a;unfold Lr at a;rw[o] at a;exact absurd a dc
structure OthF (x:Qc) (W:Wd) (k i f:Nat):Prop where
  pick:(fd x k f).Xi=3->pI (fd x k f).Xf (λt=>decide (t>0)) (g3 W k i f)=true
  step:(fd x k f).Xi=5->∃lf rc,idx x.Xd (AV x.Xd (λl=>l.Xj==(fd x k f).Of))=some lf/\Fv lf (fd x k f).Lo (fd x k f).Hi=some rc/\rc.length<=12/\pI rc (λt=>t) (g3 W k i f)=true
  share:(fd x k f).Xi=7->(fd x k f).Lo<=g3 W k i f/\g3 W k i f<=(fd x k f).Hi
  copy:(fd x k f).Xi=8->∀g u g' j:Nat,AD (kd x k) (fd x k f).Up=g->upIx x k g=u->AD (kd x u) (fd x k f).Of=g'->g3 W k i g=j->g3 W k i f=g3 W u j g'
theorem OthF.of {k f:Nat} (hc:AN x=[]) (b:k<x.Xa.length) (hf:f<nf x k) (h:OthF x V k i f) (e:g3 W k i f=g3 V k i f) (e1:∀g,(fd x k g).Xi=1->g3 W k i g=g3 V k i g) (e2:∀u j g,u<k->(fd x u g).Xi≠6->g3 W u j g=g3 V u j g):OthF x W k i f:=by
  refine⟨λl=>e▸h.pick l,λm=>?_,λn=>e▸h.share n,λa g u g' j a1 a2 a3 a4=>?_⟩
  · rw[e];exact h.step m
  · have⟨g0,o,s,t,p,v,q,d⟩:=EI hc b hf (.inr a);have⟨g1,w,y,r⟩:=P0 hc b hf a q d;have:g0=g:=by omega
    subst this;have:o=u:=by omega
    subst this;have:g1=g':=by omega
    subst this;rw[e1 _ p] at a4;rw[e,e2 _ _ _ d r];exact h.copy a _ _ _ _ a1 a2 a3 a4
def AgK (x:Qc) (W old:Wd) (k i:Nat):Prop:=(∀g,g<nf x k->(fd x k g).Xi=1->g3 W k i g=g3 old k i g)/\∀u j g,u<k->(fd x u g).Xi≠6->g3 W u j g=g3 old u j g
theorem iQ (h:Old x co old) (hw:Sh x.Xa.length c (nf x) W) {k:Nat} (w:k<x.Xa.length) (hi:i<c k) (hr:Ex x c k W):
    Ok (NF ⟨x,old,W⟩ k i) (λm=>∃Z,m=⟨x,old,Z⟩/\Sh x.Xa.length c (nf x) Z/\Kp (λC D f=>C=k/\D=i/\Al x k f) W Z/\(∀f,f<nf x k->OthF x Z k i f)/\(i<co k->(∀f,f<nf x k->OthF x old k i f)->AgK x W old k i->∀f,f<nf x k->Al x k f->g3 Z k i f=g3 old k i f)):=by
  have h9:=h.nf w;have⟨hn,_⟩:=HW h.clean w;unfold NF;dsimp only;rw[AQ w];dsimp only[ob];refine Ok.g1 hw w (Ok.g2 hw w hi (Ok.g1 h.sh w ?_));rw[h.sh.row k w];refine Ok.bind (P:=λo:Lz=>(i<co k->o=g2 old k i/\o.length=nf x k)/\(¬i<co k->o=[])) (Ok.ite (λz=>?_) λa6=>Ok.mk ⟨λz=>?_,λ_=>rfl⟩) λo Y=>?_
  · have A:i<co k:=by have:=Zt z;omega
    refine Ok.g1 h.sh w (Ok.g2 h.sh w A ?_);have hl:=h.sh.fld k i w A;have:neL (g2 old k i)=some ():=by unfold neL;rw[Zb];intro e;rw[isEmpty_iff] at e;rw[e] at hl;simp at hl;omega
    rw[this];exact Ok.mk ⟨λ_=>⟨rfl,hl⟩,λq=>(q A).elim⟩
  · have:=Zy a6;omega
  have⟨M,a7⟩:=Y;have a8:(!o.isEmpty)=decide (i<co k):=by
    by_cases q:i<co k
    · have:=(M q).2;rw[decide_eq_true q,Yk,isEmpty_eq_false_iff];intro e;rw[e] at this;simp at this;omega
    · rw[a7 q,decide_eq_false q];rfl
  let Ag:Prop:=i<co k/\(∀f,f<nf x k->OthF x old k i f)/\AgK x W old k i
  refine Ok.bind (P:=λV=>Sh x.Xa.length c (nf x) V/\Kp (λC D f=>C=k/\D=i/\Al x k f) W V/\(∀f,f<nf x k->OthF x V k i f)/\(Ag->∀f,f<nf x k->Al x k f->g3 V k i f=g3 old k i f))
    (Ok.cnt (kd x k).Xb.length (λf V=>Sh x.Xa.length c (nf x) V/\Kp (λC D f=>C=k/\D=i/\Al x k f) W V/\(∀y,y<f->OthF x V k i y)/\(Ag->∀y,y<f->Al x k y->g3 V k i y=g3 old k i y)) ⟨hw,Kp.refl _ _,λf hf=>om,λ_ f hf=>om⟩ (λf V hf hV=>?_) λV hV=>by rw[AK];exact Ok.mk hV) λV hV=>Ok.mk ⟨V,rfl,hV.1,hV.2.1,hV.2.2.1,λa b d=>hV.2.2.2 ⟨a,b,d⟩⟩
  have⟨v1,v2,v3,v4⟩:=hV;have r:f<nf x k:=hf;dsimp only;rw[AL hf,fd_idx' k hf,a8];dsimp only[ob];have a9:Ex x c k V:=hr.kp v2 λi f h1 E=>by have:=E.2.2;unfold Al at this;omega
  -- writing a field of this kind
  have ow:∀{v:Int},Al x k f->OthF x (s3 V k i f v) k i f->(Ag->v=g3 old k i f)->Sh x.Xa.length c (nf x) (s3 V k i f v)/\Kp (λC D f=>C=k/\D=i/\Al x k f) W (s3 V k i f v)/\(∀y,y<f+1->OthF x (s3 V k i f v) k i y)/\(Ag->∀y,y<f+1->Al x k y->g3 (s3 V k i f v) k i y=g3 old k i y):=λ{v} E N F=>
    ⟨v1.s w hi,v2.step (v1.kp w hi r ⟨rfl,rfl,E⟩),λy z=>by
      by_cases e:y=f
      · rw[e];exact N
      · refine OthF.of h.clean w om (v3 y om) ?_ (λg hg=>?_) λu j g hu _=>?_
        · rw[v1.g3s w hi r,Zb (λq=>e q.2.2)]
        · rw[v1.g3s w hi r,Zb (λq=>by have:=q.2.2;unfold Al at E;rw[this] at hg;omega)]
        · rw[v1.g3s w hi r,Zb (λq=>om)],λa y z Y=>by
      rw[v1.g3s w hi r];by_cases e:y=f
      · rw[Zc ⟨rfl,rfl,e⟩,e];exact F a
      · rw[Zb (λq=>e q.2.2)];exact v4 a y om Y⟩
  have sv:∀v,g3 (s3 V k i f v) k i f=v:=λv=>by rw[v1.g3s w hi r,Zc ⟨rfl,rfl,rfl⟩]
  refine Ok.bind (P:=λl:Lz=>l.length<=1/\(i<co k->l=[g3 old k i f])) (Ok.ite (λhne=>?_) λhne=>Ok.mk ⟨sm,λq=>absurd q (Zy hne)⟩) λl hl=>?_
  · have O:=Zt hne;obtain⟨rfl,a0⟩:=M O;unfold nf at h9 a0;rw[w64 (n:=(f:Int)+1) om om];have e:Sim.sub (g2 old k i) (f:Int) ((f:Int)+1)=some [g3 old k i f]:=by
      unfold Sim.sub;rw[Zc ⟨om,om,om⟩];have e1:((f:Int)+1).toNat - (f:Int).toNat=1:=by omega
      rw[e1,Zu,Yq om];unfold g3;rw[Zg,Zd (show f<(g2 old k i).length by omega)];rfl
    rw[e];exact Ok.mk ⟨sm,λ_=>rfl⟩
  have⟨l1,l2⟩:=hl;have hs:AH (fd x k f)=true:=(Cz ((Ce h.clean).kind _ (Cq w))).2.2 _ (Ev hf)
  let P:Wd->Prop:=λV=>Sh x.Xa.length c (nf x) V/\Kp (λC D f=>C=k/\D=i/\Al x k f) W V/\(∀y,y<f+1->OthF x V k i y)/\(Ag->∀y,y<f+1->Al x k y->g3 V k i y=g3 old k i y)
  refine Ok.bind (P:=P) ?_ λV hV=>Ok.mk ⟨QD hf (by unfold nf at h9;omega),hV⟩;refine Ok.ite (λh3=>?_) λh3=>?_
  · have Q:(fd x k f).Xi=3:=by simpa using h3
    have⟨_,_,b0⟩:=Uq hs Q;refine (Ux (p:=pI (fd x k f).Xf (λt=>decide (t>0))) (λn=>Uy _) l1 b0).bind λv N=>?_;refine Ok.g1 v1 w (Ok.g2 v1 w hi (Ok.g3 v1 w hi r (Ok.put v1 w hi r (Ok.mk (ow (.inl Q) ⟨λ_=>by rw[sv];exact N.1,λq=>om,λq=>om,λq=>om⟩ λa=>?_)))));exact N.2 _ (l2 a.1) ((a.2.1 f r).pick Q)
  refine Ok.bind (P:=P) ?_ λV hV=>Ok.mk hV;refine Ok.ite (λh5=>?_) λh5=>?_
  · have H:(fd x k f).Xi=5:=by simpa using h5
    have c4:=h.gx.short.lives;rw[U0 (f:=λx0=>Pg x0 (fd x k f)) (p:=λl=>l.Xj==(fd x k f).Of) om (λl _=>rfl)];dsimp only[ob];have a5:=aU h.clean w r H;have b1:0<=AV x.Xd (λl=>l.Xj==(fd x k f).Of):=by
      unfold AV
      cases e:x.Xd.findIdx? (λl=>l.Xj==(fd x k f).Of) with
      | none=>have⟨l,hl,hp⟩:=Yp.1 a5;have:=findIdx?_eq_none_iff.1 e l hl;rw[hp] at this;cases this
      | some n=>dsimp only;omega
    have⟨lf,S,b2⟩:=Cj b1 (H5 x.Xd _).2;rw[S];dsimp only[ob];have hp:=hs;unfold AH Av at hp;simp only[Zh] at hp;have B:=hp.2;rw[Zb om,Zb om,Zb om,Zb om,Zb om,Zc H,Zh] at B;have I:=BS B.2;have⟨rc,T,b3,s,b4,b5⟩:=jA ((Ce h.clean).life lf b2) I.1 I.2.1 om;rw[T];dsimp only[ob];refine (Ux (p:=pI rc (λt=>t)) (λn=>Uy _) l1 ⟨s,om,Gl.2 ⟨s,rfl,b4,b5⟩⟩).bind λv N=>?_;refine Ok.g1 v1 w (Ok.g2 v1 w hi (Ok.g3 v1 w hi r (Ok.put v1 w hi r (Ok.mk (ow (.inr (.inl H)) ⟨λq=>om,λ_=>⟨lf,rc,S,T,b3,by rw[sv];exact N.1⟩,λq=>om,λq=>om⟩ λa=>?_)))));have⟨c5,c6,e1,e2,_,e3⟩:=(a.2.1 f r).step H;rw[S] at e1;cases e1;rw[T] at e2;cases e2;exact N.2 _ (l2 a.1) e3
  refine Ok.bind (P:=P) ?_ λV hV=>Ok.mk hV;refine Ok.ite (λh7=>?_) λh7=>?_
  · have U:(fd x k f).Xi=7:=by simpa using h7
    have E:Al x k f:=.inr (.inr (.inl U));have hp:=hs;unfold AH Av at hp;simp only[Zh] at hp;have B:=hp.2;rw[Zb om,Zb om,Zb om,Zb om,Zb om,Zb om,Zb om,Zc U,Zh] at B;have I:=BS B.2;refine Ok.g1 v1 w (Ok.g2 v1 w hi (Ok.g3 v1 w hi r (Ok.put v1 w hi r ?_)));refine Ok.bind (P:=P) (Ok.ite (λhne=>?_) λhne=>Ok.mk (ow E ⟨λq=>om,λq=>om,λ_=>by rw[sv];omega,λq=>om⟩ λa=>absurd a.1 (Zy hne))) λV hV=>Ok.mk hV;have O:=Zt hne;obtain⟨rfl,a0⟩:=M O;rw[Ai (d:=0) (show f<(g2 old k i).length by omega),show (g2 old k i).getD f 0=g3 old k i f from rfl];dsimp only[ob];rw[S3];dsimp only[ob];have u1:=v1.s (k:=k) (i:=i) (f:=f) (v:=(fd x k f).Lo) w hi;refine Ok.g1 u1 w (Ok.g2 u1 w hi (Ok.g3 u1 w hi r (Ok.put u1 w hi r ?_)));have b6:=Pz (o:=g3 old k i f) I.2.1;have es:∀v,s3 (s3 V k i f (fd x k f).Lo) k i f v=s3 V k i f v:=λv=>by
      unfold s3;have b7:k<V.length:=by rw[v1.len];exact w
      have e1:g1 (V.set k ((g1 V k).set i ((g2 V k i).set f (fd x k f).Lo))) k=(g1 V k).set i ((g2 V k i).set f (fd x k f).Lo):=by unfold g1;rw[C1,Zc ⟨rfl,b7⟩]
      have e2:g2 (V.set k ((g1 V k).set i ((g2 V k i).set f (fd x k f).Lo))) k i=(g2 V k i).set f (fd x k f).Lo:=by show (g1 _ k).getD i []=_;rw[e1,C1,Zc ⟨rfl,by rw[v1.row k w];exact hi⟩]
      rw[e2,e1,List.set_set,List.set_set,List.set_set]
    rw[es];refine Ok.mk (ow E ⟨λq=>om,λq=>om,λ_=>by rw[sv];exact b6,λq=>om⟩ λa=>?_);have:=(a.2.1 f r).share U;exact Uu this.1 this.2
  refine Ok.bind (P:=P) ?_ λV hV=>Ok.mk hV;refine Ok.ite (λh8=>?_) λh8=>Ok.mk ?_
  · have K:(fd x k f).Xi=8:=by simpa using h8
    have E:Al x k f:=.inr (.inr (.inr K));have⟨g,u,e,hg,h1,X,b8,z⟩:=EI h.clean w r (.inr K);have⟨g',e2,b9,c0⟩:=P0 h.clean w r K b8 z;have⟨j,ej,hj⟩:=a9 i g u hi hg h1 X;have hu:u<x.Xa.length:=by omega
    rw[DZ (h.fields w),e];dsimp only[ob];rw[GZ h.few,X];dsimp only[ob];refine Ok.g1 v1 hu (Ok.g1 v1 w (Ok.g2 v1 w hi (Ok.g3 v1 w hi hg ?_)));rw[ej];apply Ok.g2 v1 hu hj;rw[AQ hu];dsimp only[ob];rw[DZ (h.fields hu),e2];dsimp only[ob];have c1:∀v,g3 (s3 V k i f v) k i g=g3 V k i g:=λv=>by rw[v1.g3s w hi r,Zb (λq=>by have:=q.2.2;rw[this] at h1;omega)]
    have c2:∀v,g3 (s3 V k i f v) u j g'=g3 V u j g':=λv=>by rw[v1.g3s w hi r,Zb (λq=>om)]
    refine Ok.g3 v1 hu hj b9 (Ok.g3 v1 w hi r (Ok.put v1 w hi r (Ok.mk (ow E ⟨λq=>om,λq=>om,λq=>om,λ_ g0 u0 c3 j0 a1 a2 a3 a4=>?_⟩ λa=>?_))))
    · have:g0=g:=by omega
      subst this;have:u0=u:=by omega
      subst this;have:c3=g':=by omega
      subst this;rw[c1] at a4;have:j0=j:=by omega
      subst this;rw[sv,c2]
    · have F:=a.2.2;have r1:=F.1 g hg h1;have r2:=F.2 u j g' z c0;have q1:g3 V k i g=g3 W k i g:=v2 k i g λq=>by have:=q.2.2;unfold Al at this;omega
      have q2:g3 V u j g'=g3 W u j g':=v2 u j g' λq=>by omega
      rw[q2,r2];exact ((a.2.1 f r).copy K g u g' j e X e2 (by rw[<-r1,<-q1,ej])).symm
  · have n3:¬(fd x k f).Xi=3:=by simpa using h3
    have n5:¬(fd x k f).Xi=5:=by simpa using h5
    have n7:¬(fd x k f).Xi=7:=by simpa using h7
    have n8:¬(fd x k f).Xi=8:=by simpa using h8
    refine⟨v1,v2,λy z=>?_,λa y z Y=>?_⟩
    · by_cases e:y=f
      · subst e;exact⟨λq=>(n3 q).elim,λq=>(n5 q).elim,λq=>(n7 q).elim,λq=>(n8 q).elim⟩
      · exact v3 y om
    · by_cases e:y=f
      · subst e;unfold Al at Y;omega
      · exact v4 a y om Y
def C8 (W:Wd) (o a g i:Nat):Nat->Int
  | 0=>0
  | n+1=>C8 W o a g i n+if g3 W o n g=(i:Int) then g3 W o n a else 0
theorem NM {o a g:Nat}:∀{n:Nat},(∀j,j<n->g3 V o j g=g3 W o j g/\g3 V o j a=g3 W o j a)->C8 V o a g i n=C8 W o a g i n
  | 0,_=>rfl
  | n+1,h=>by unfold C8;rw[NM (n:=n) λj b=>h j om,(h n om).1,(h n om).2]
theorem P1 {o a g:Nat}:∀{n:Nat},(∀j,j<n->0<=g3 W o j a/\g3 W o j a<=1010)->0<=C8 W o a g i n/\C8 W o a g i n<=1010 * (n:Int)
  | 0,_=>by unfold C8;omega
  | n+1,h=>by have:=P1 (o:=o) (a:=a) (g:=g) (n:=n) λj b=>h j om;have:=h n om;unfold C8;split<;>omega
def SumG (x:Qc) (c:Nat->Nat) (W:Wd) (k i f:Nat):Prop:=∀o a g:Nat,Du x k f=((o:Int),(a:Int))->AD (kd x o) (fd x o a).Up=g->g3 W k i f=C8 W o a g i (c o)
def NoS (x:Qc) (c:Nat->Nat) (W V:Wd):Prop:=∀k i f,k<x.Xa.length->i<c k->f<nf x k->(fd x k f).Xi≠6->g3 V k i f=g3 W k i f
theorem SumG.of {k f:Nat} (hc:AN x=[]) (n:k<x.Xa.length) (hf:f<nf x k) (p:(fd x k f).Xi=6) (h:SumG x c W k i f) (e:g3 V k i f=g3 W k i f) (l:NoS x c W V):SumG x c V k i f:=λo a g e1 e2=>by
  have⟨o',q,r,s,b,ha,t,v⟩:=GI hc n hf p;have d:=r.symm.trans e1;simp only[Yf] at d;have:o'=o:=by omega
  subst this;have:q=a:=by omega
  subst this;have⟨g',u,y,w,z,_⟩:=EI hc b ha (.inl t);have:g'=g:=by omega
  subst this;rw[e,h _ _ _ e1 e2];exact (NM λj m=>⟨l _ _ _ b m w om,l _ _ _ b m ha om⟩).symm
theorem jB (h:Old x co old) (hw:Sh x.Xa.length c (nf x) W) {k:Nat} (v:k<x.Xa.length) (hc:∀k,k<x.Xa.length->c k<=60) (hr:∀k,k<x.Xa.length->Ex x c k W) (hz:∀i f,i<c k->f<nf x k->(fd x k f).Xi=6->g3 W k i f=0)
    (Z:∀o j a,o<x.Xa.length->j<c o->a<nf x o->(fd x o a).Xi=7->0<=g3 W o j a/\g3 W o j a<=1010):
    Ok (NC ⟨x,old,W⟩ k) (λm=>∃F,m=⟨x,old,F⟩/\Sh x.Xa.length c (nf x) F/\Kp (B8 k (λf=>(fd x k f).Xi=6)) W F/\∀i f,i<c k->f<nf x k->(fd x k f).Xi=6->SumG x c F k i f):=by
  have h9:=h.nf v;unfold NC;dsimp only;rw[AQ v];dsimp only[ob];have C:∀V:Wd,Sh x.Xa.length c (nf x) V->Kp (B8 k (λf=>(fd x k f).Xi=6)) W V->∀i f,i<c k->f<nf x k->(fd x k f).Xi=6->(SumG x c V k i f↔∀o a g:Nat,Du x k f=((o:Int),(a:Int))->AD (kd x o) (fd x o a).Up=g->g3 V k i f=C8 W o a g i (c o)):=λV hV w i f hi hf t=>by refine forall_congr' λo=>forall_congr' λa=>forall_congr' λg=>forall_congr' λe1=>forall_congr' λe2=>?_;have⟨o',K,e3,M,l,ha,H,N⟩:=GI h.clean v hf t;have A:=e3.symm.trans e1;simp only[Yf] at A;rw[NM (W:=W) (V:=V)];intro j _;exact⟨w _ _ _ λq=>by have:=q.1;omega,w _ _ _ λq=>by have:=q.1;omega⟩
  refine Ok.bind (P:=λV=>Sh x.Xa.length c (nf x) V/\Kp (B8 k (λf=>(fd x k f).Xi=6)) W V/\∀i f,i<c k->f<nf x k->(fd x k f).Xi=6->SumG x c V k i f) (Ok.cnt (kd x k).Xb.length (λf V=>Sh x.Xa.length c (nf x) V/\Kp (B8 k (λf=>(fd x k f).Xi=6)) W V/\(∀i d,i<c k->d<f->(fd x k d).Xi=6->SumG x c V k i d)/\∀i d,i<c k->f<=d->d<nf x k->(fd x k d).Xi=6->g3 V k i d=0) ⟨hw,Kp.refl _ _,λi f _ hf=>om,λi f hi _ hf=>hz i f hi hf⟩ (λf V hf hV=>?_) λV hV=>by rw[AK];exact Ok.mk ⟨hV.1,hV.2.1,hV.2.2.1⟩) λV hV=>Ok.mk ⟨V,rfl,hV⟩;have s:f<nf x k:=hf;rw[AL hf,fd_idx' k hf];dsimp only[ob];have⟨v1,v2,v3,O⟩:=hV;refine Ok.bind (P:=λV=>Sh x.Xa.length c (nf x) V/\Kp (B8 k (λf=>(fd x k f).Xi=6)) W V/\(∀i d,i<c k->d<f+1->(fd x k d).Xi=6->SumG x c V k i d)/\∀i d,i<c k->f+1<=d->d<nf x k->(fd x k d).Xi=6->g3 V k i d=0) (Ok.ite (λhne=>Ok.mk ⟨v1,v2,λi d hi B t=>?_,λi d hi Q=>O i d hi om⟩) λt=>?_) λV hV=>Ok.mk ⟨QD hf (by unfold nf at h9;omega),hV⟩
  · rcases Nat.lt_succ_iff_lt_or_eq.1 B with S | S
    · exact v3 i d hi S t
    · subst S;rw[t] at hne;cases hne
  have y:(fd x k f).Xi=6:=by simpa using t
  have⟨o,a,e,M,l,ha,H,N⟩:=GI h.clean v s y;have⟨g,u,e2,hg,h1,T,a0,B⟩:=EI h.clean l ha (.inl H);have:u=k:=by omega
  subst this;have a1:=hc o l;rw[S1 h.few,e];dsimp only[ob];rw[AQ l];dsimp only[ob];rw[C0 ha];dsimp only[ob];rw[DZ (h.fields l),e2];dsimp only[ob];apply Ok.g1 v1 l;rw[v1.row o l];refine Ok.bind (P:=λU=>Sh x.Xa.length c (nf x) U/\Kp (λD _ d=>D=u/\d=f) V U/\∀i,i<c u->g3 U u i f=C8 W o a g i (c o)) (Ok.cnt (c o) (λj U=>Sh x.Xa.length c (nf x) U/\Kp (λD _ d=>D=u/\d=f) V U/\∀i,i<c u->g3 U u i f=C8 W o a g i j) ⟨v1,Kp.refl _ _,λi hi=>O i f hi (Zq _) s y⟩ (λj U z hU=>?_) λU hU=>by rw[AK];exact Ok.mk hU) λU hU=>Ok.mk ⟨hU.1,v2.step (hU.2.1.Xo λD i d q=>⟨q.1,by rw[q.2];exact y⟩),λi d hi B t=>?_,λi d hi Q X t=>?_⟩
  · have⟨r,u2,I⟩:=hU;have eo:∀f,g3 U o j f=g3 W o j f:=λf=>by rw[u2 o j f λq=>om,v2 o j f λq=>by have:=q.1;omega]
    have⟨b,eb,hb⟩:=hr o l j g u z hg h1 T;rw[AL z];refine Ok.g1 r l (Ok.g2 r l z (Ok.g1 r v (Ok.g1 r l (Ok.g2 r l z (Ok.g3 r l z hg ?_)))));rw[eo,eb];have a2:=P1 (W:=W) (o:=o) (a:=a) (g:=g) (i:=b) (n:=j) λj' a3=>Z o j' a l om ha H;have a4:=Z o j a l z ha H;refine Ok.g2 r v hb (Ok.g3 r v hb s (Ok.g3 r l z ha ?_));rw[eo,I b hb,w64 om om];refine Ok.put r v hb s (Ok.mk ⟨QD z om,r.s v hb,u2.step (r.kp v hb s ⟨rfl,rfl⟩),λi hi=>?_⟩);rw[r.g3s v hb s];show _=C8 W o a g i j+if g3 W o j g=(i:Int) then g3 W o j a else 0;by_cases q:i=b
    · subst q;rw[Zc ⟨rfl,rfl,rfl⟩,Zc eb]
    · rw[Zb (λp=>q p.2.1),Zb (λp=>q om),I i hi];omega
  · have⟨r,u2,I⟩:=hU;have w:=v2.step (u2.Xo λD i d q=>⟨q.1,by rw[q.2];exact y⟩);refine (C U r w i d hi om t).2 λo' K g' E Y=>?_;by_cases q:d=f
    · subst q;have A:=e.symm.trans E;simp only[Yf] at A;have:o=o':=by omega
      subst this;have:a=K:=by omega
      subst this;have:g=g':=by omega
      subst this;exact I i hi
    · rw[u2 u i d λp=>q p.2];exact (C V v1 v2 i d hi om t).1 (v3 i d hi om t) o' K g' E Y
  · rw[hU.2.1 u i d λp=>om];exact O i d hi om X t
theorem sh_ext {n:Nat} {c d nf:Nat->Nat} (b:Sh n c nf W) (g:Sh n d nf V) (e:∀k,k<n->d k=c k) (h:∀k i f,k<n->i<c k->f<nf k->g3 V k i f=g3 W k i f):V=W:=by
  refine ext_getElem (by rw[b.len,g.len]) λk r o=>?_;have a:k<n:=by rw[<-b.len];exact o
  have s:V[k]=g1 V k:=by unfold g1;rw[Zg,Zd r];rfl
  have t:W[k]=g1 W k:=by unfold g1;rw[Zg,Zd o];rfl
  rw[s,t];refine ext_getElem (by rw[b.row k a,g.row k a,e k a]) λi u p=>?_;have hi:i<c k:=by rw[<-b.row k a];exact p
  have l:(g1 V k)[i]=g2 V k i:=by unfold g2;rw[Zg,Zd u];rfl
  have m:(g1 W k)[i]=g2 W k i:=by unfold g2;rw[Zg,Zd p];rfl
  rw[l,m];refine ext_getElem (by rw[b.fld k i a hi,g.fld k i a (by rw[e k a];exact hi)]) λf v q=>?_;have hf:f<nf k:=by rw[<-b.fld k i a hi];exact q
  have:=h k i f a hi hf;unfold g3 at this;rw[Zg,Zg,Zd v,Zd q] at this;exact this
theorem jC {n:Nat} {c nf:Nat->Nat} (b:Sh n c nf W) (m:n<=1000) (hc:∀k,k<n->c k<=1000) (hf:∀k,k<n->nf k<=1000):GF W W=some 0:=by
  have key:Ok (GF W W) (λr=>r=0):=by
    unfold GF;refine Ok.bind (P:=λr=>r=0) (Ok.cnt W.length (λ_ s=>s=0) rfl (λk s l d=>?_) λs d=>by rw[AK];exact Ok.mk d) λr h=>Ok.mk h;have a:k<n:=by rw[<-b.len];exact l
    have o:=hc k a;subst d;rw[AL l];refine Ok.g1 b a (Ok.g1 b a ?_);rw[b.row k a];have hm:imin ((c k:Nat):Int) ((c k:Nat):Int)=((c k:Nat):Int):=by unfold imin;split<;>rfl
    rw[hm];refine Ok.bind (P:=λr=>r=0) (Ok.cnt (c k) (λ_ s=>s=0) rfl (λi s hi d=>?_) λs d=>by rw[AK];exact Ok.mk d) λr h=>Ok.mk ⟨QD l (by rw[b.len];omega),h⟩;subst d;rw[AL hi];refine Ok.g1 b a (Ok.g2 b a hi ?_);rw[b.fld k i a hi];have p:=hf k a;refine Ok.bind (P:=λr=>r=0) (Ok.cnt (nf k) (λ_ s=>s=0) rfl (λf s g d=>?_) λs d=>by rw[AK];exact Ok.mk d) λr h=>Ok.mk ⟨QD hi om,h⟩;subst d;rw[AL g];refine Ok.g3 b a hi g (Ok.g1 b a (Ok.g2 b a hi (Ok.g3 b a hi g ?_)));rw[Zb sm];exact Ok.mk ⟨QD g om,rfl⟩
  obtain⟨r,e,rfl⟩:=key;exact e
def rl (W:Wd) (k f j n:Nat):Lz:=((range n).filter λi=>g3 W k i f==(j:Int)).map Int.ofNat
theorem P2 (W:Wd) (k f j n:Nat):rl W k f j (n+1)=rl W k f j n++if g3 W k n f=(j:Int) then [(n:Int)] else []:=by
  unfold rl;rw[Ym,filter_append,Yu];by_cases h:g3 W k n f=(j:Int)
  · rw[Zc h,filter_cons,Zc (sa h)];rfl
  · rw[Zb h,filter_cons,Zb (sa h)];rfl
theorem U1 (W:Wd) (k f j n:Nat):(rl W k f j n).length<=n:=by
  unfold rl;rw[Yh];have:=length_filter_le (λi=>g3 W k i f==(j:Int)) (range n)
  rwa [YB] at this
theorem U2 {k f n:Nat} {a:Int} (h:a∈rl W k f j n):∃b:Nat,a=b/\b<n:=by unfold rl at h;obtain⟨b,hb,rfl⟩:=ZR.1 h;exact⟨b,rfl,Yd.1 (Yn.1 hb).1⟩
def NN (l:List Qm) (V:MpK Str Qm):Prop:=∀n,Ax V n=l.find? λy=>y.Xj==n
def RefX (c:Nat->Nat) (W:Wd) (y:Qh) (R:List Lz):Prop:=R.length=c y.to.toNat/\∀j,j<c y.to.toNat->R.getD j []=rl W y.kind.toNat y.field.toNat j (c y.kind.toNat)
structure CkX (x:Qc) (c:Nat->Nat) (W:Wd) (L:List Qh) (R:MpK Qh (List Lz)):Prop where
  link:∀y∈L,GL x y
  all:∀k f u:Nat,k<x.Xa.length->f<nf x k->(fd x k f).Xi=1->upIx x k f=u->Qh.mk k f u∈L
  refs:∀y∈L,∃l,Ax R y=some l/\RefX c W y l
theorem jD (l:List Qm) (hl:l.length<=1000):Ok (JD (λ(b:MpK Str Qm) (a:(Int×Qm))=>((E3 b (a.2).Xj a.2).bind λd=>(some (.inl d)):Option ((MpK Str Qm)⊕(MpK Str Qm)))) (some []:MpK Str Qm) l) (λo=>∃V,o=.inl V/\NN l V):=by
  unfold JD;rw[w64 (n:=(l.length:Int) - 1) om om];refine Ok.loop (λk s=>s.1+1=k/\s.1<l.length/\∃m,s.2=some m/\NN (l.drop k) (some m)) l.length ⟨by dsimp only;omega,by dsimp only;omega,[],rfl,λn=>by rw[drop_of_length_le (Zq _)];rfl⟩ λk s r=>?_;have⟨i,s⟩:=s;obtain⟨t,u,m,rfl,f⟩:=r;dsimp only at t u ⊢;refine Ok.ite (λh=>?_) λh=>Ok.mk ⟨_,rfl,?_⟩
  · have g:=Zt h;obtain⟨j,rfl⟩:=ZB g;have p:j<l.length:=by omega
    rw[QY p];dsimp only[ob];rw[Ke rfl];refine Ok.mk ⟨j,om,?_⟩;rw[w64 (n:=(j:Int) - 1) om om];refine⟨by dsimp only;omega,by dsimp only;omega,_,rfl,λn=>?_⟩;have e:k=j+1:=by omega
    subst e;show A2 (Ds m _ _) n=_;rw[Dt,Yq p,find?_cons];by_cases q:n=l[j].Xj
    · subst q;rw[Zc rfl];simp
    · rw[Zb q,show (l[j].Xj==n)=false by rw[beq_eq_false_iff_ne];exact λe=>q e.symm];exact f n
  · have g:=Zy h;have:k=0:=by omega
    subst this;exact f
theorem jE (h:Old x c W):Ok (JZ x W) (λr=>r.2=0/\∃L R V,r.1=some ⟨x,W,L,R,V,[]⟩/\CkX x c W L R/\L.length<=60/\NN x.Xd V):=by
  have a2:=h.kinds;unfold JZ;rw[dY h.gx.short,h.clean];dsimp only[ob];rw[Zb dc,Zb (by rw[h.sh.len];simp)];refine Ok.bind (P:=λL:List Qh=>L.length<=60/\(∀y∈L,GL x y)/\∀k f u:Nat,k<x.Xa.length->f<nf x k->(fd x k f).Xi=1->upIx x k f=u->Qh.mk k f u∈L)
    (Ok.cnt x.Xa.length (λi L=>L.length<=i * 9/\(∀y∈L,GL x y)/\∀k f u:Nat,k<i->f<nf x k->(fd x k f).Xi=1->upIx x k f=u->Qh.mk k f u∈L) ⟨sm,λy hy=>(nomatch hy),λk f u b=>om⟩ (λk L b D=>?_) λL D=>by rw[AK];exact Ok.mk ⟨by dsimp only;omega,D.2⟩) λL D=>?_
  · have h9:=h.nf b;rw[AL b,AQ b];dsimp only[ob];refine Ok.bind (P:=λA:List Qh=>A.length<=(k+1) * 9/\(∀y∈A,GL x y)/\(∀y∈L,y∈A)/\∀f u:Nat,f<nf x k->(fd x k f).Xi=1->upIx x k f=u->Qh.mk k f u∈A)
      (Ok.cnt (kd x k).Xb.length (λf A=>A.length<=k * 9+f/\(∀y∈A,GL x y)/\(∀y∈L,y∈A)/\∀w u:Nat,w<f->(fd x k w).Xi=1->upIx x k w=u->Qh.mk k w u∈A) ⟨D.1,D.2.1,λy hy=>hy,λf u hf=>om⟩ (λf A hf g=>?_) λA g=>by rw[AK];exact Ok.mk ⟨by have:=g.1;unfold nf at h9;dsimp only;omega,g.2.1,g.2.2.1,g.2.2.2⟩) λA g=>Ok.mk ⟨QD b om,g.1,g.2.1,λk' f u n hf B hu=>?_⟩
    · unfold nf at h9;rw[AL hf,fd_idx' k hf];dsimp only[ob];have⟨l1,l2,l3,l4⟩:=g;refine Ok.bind (P:=λK:List Qh=>K.length<=k * 9+(f+1)/\(∀y∈K,GL x y)/\(∀y∈L,y∈K)/\∀w u:Nat,w<f+1->(fd x k w).Xi=1->upIx x k w=u->Qh.mk k w u∈K) (Ok.ite (λB=>?_) λB=>Ok.mk ⟨om,l2,l3,λw u E C hu=>?_⟩) λK h2=>Ok.mk ⟨QD hf om,h2⟩
      · have M:(fd x k f).Xi=1:=by simpa using B
        have⟨u,hu,F⟩:=Hc h.clean b hf (.inl M);rw[GZ h.few,hu];dsimp only[ob];refine Ok.rm so (Ok.mk ⟨so,λy hy=>?_,λy hy=>mem_append_left _ (l3 y hy),λw u' E C T=>?_⟩)
        · rcases ZH.1 hy with hy | hy
          · exact l2 y hy
          · exact⟨k,f,u,Zi.1 hy,b,hf,M,hu,F⟩
        · rcases Nat.lt_succ_iff_lt_or_eq.1 E with s | s
          · exact mem_append_left _ (l4 w u' s C T)
          · subst s;have:u'=u:=by omega
            subst this;exact mem_append_right _ (mem_singleton_self _)
      · rcases Nat.lt_succ_iff_lt_or_eq.1 E with s | s
        · exact l4 w u s C hu
        · subst s;rw[C] at B;cases B
    · rcases Nat.lt_succ_iff_lt_or_eq.1 n with s | s
      · exact g.2.2.1 _ (D.2.2 k' f u s hf B hu)
      · subst s;exact g.2.2.2 f u hf B hu
  · have⟨N,O,U⟩:=D;refine Ok.bind (P:=λe:Unit⊕Int=>∃a,e=.inl a) (Ok.cnt0 W.length (λ_=>True) trivial (λk b _=>?_) λ_=>by rw[AK];exact Ok.mk ⟨_,rfl⟩) λe Q=>?_
    · have n:k<x.Xa.length:=by rw[<-h.sh.len];exact b
      have X:=h.le k n;rw[AL b,h.sh.i1 n];dsimp only[ob];rw[h.sh.row k n];have e1:decide (((c k:Nat):Int)>512)=false:=by simp;omega
      rw[e1,SY (g1 W k) (λx0=>Il x0 x (k:Int)) (λ_=>false) (λr hr=>bS h n hr) (by rw[h.sh.row k n];omega)];have e2:(g1 W k).any (λ_=>false)=false:=by simp
      rw[e2];exact Ok.mk ⟨QD b (by rw[h.sh.len];omega),trivial⟩
    · obtain⟨a,rfl⟩:=Q;dsimp only;refine Ok.bind (P:=λe:MpK Qh (List Lz)⊕Int=>∃R,e=.inl R/\CkX x c W L R)
        (Ok.cnt L.length (λi m=>(∃l,m=some l)/\∀j (t:j<L.length),j<i->∃l,Ax m L[j]=some l/\RefX c W L[j] l) ⟨⟨_,rfl⟩,λj _ t=>om⟩ (λi m hi hm=>?_) λm hm=>?_) λe Q=>?_
      · obtain⟨⟨ml,rfl⟩,hm⟩:=hm;have Y:=O _ (Zr hi);have⟨k,f,u,e,b,hf,B,hu,F⟩:=Y;have X:=h.le k b;have a1:=h.le u om;rw[AL hi,QY hi];dsimp only[ob];generalize hy:L[i]=y at e;subst e;dsimp only;rw[h.sh.i1 (show u<x.Xa.length by omega)];dsimp only[ob];rw[h.sh.row u om,Dp _ _ om,h.sh.i1 b];dsimp only[ob];refine Ok.bind (P:=λe:List Lz⊕Int=>∃R,e=.inl R/\RefX c W ⟨k,f,u⟩ R)
          (Ok.cnt (g1 W k).length (λi R=>R.length=c u/\∀j,j<c u->R.getD j []=rl W k f j i) ⟨sm,λj t=>by rw[Zg,getElem?_replicate,Zc t];rfl⟩ (λj R t z=>?_) λR z=>?_) λe Q=>?_
        · have H:j<c k:=by rw[h.sh.row k b] at t;exact t
          rw[AL t,h.sh.i2 b H];dsimp only[ob];rw[h.sh.i3 b H hf];dsimp only[ob];have⟨v,hv,S⟩:=h.ref b H hf B hu;rw[hv];have e1:decide ((v:Int)<0)=false:=by simp
          rw[e1];show Ok (if decide ((v:Int)>=(R.length:Int)) then _ else _) _;rw[Zb (by rw[z.1];simp;omega)];have I:v<R.length:=by rw[z.1];exact S
          rw[Ai (d:=[]) I,z.2 v S];dsimp only[ob];have a3:=U1 W k f v j;apply Ok.rm so;rw[Cx I];refine Ok.mk ⟨QD t (by rw[h.sh.row k b];omega),by rw[ZK];exact z.1,λj' Z=>?_⟩;rw[C1,P2,hv];by_cases q:j'=v
          · rw[Zc ⟨q,I⟩,Zc om,q]
          · rw[Zb (λp=>q p.1),Zb om,Yg];exact z.2 j' Z
        · rw[AK];exact Ok.mk ⟨R,rfl,z.1,λj t=>by rw[h.sh.row k b] at z;exact z.2 j t⟩
        · obtain⟨R,rfl,z⟩:=Q;dsimp only;rw[Ke rfl,Oi ⟨k,f,u,rfl,b,hf,B,hu,F⟩ om (λk b=>by have:=h.nf b;omega)];refine Ok.mk ⟨QD hi om,⟨_,rfl⟩,λj t a0=>?_⟩;show ∃l,A2 (Ds ml _ R) L[j]=some l/\_;rw[Dt];by_cases e:L[j]=⟨k,f,u⟩
          · rw[Zc e];exact⟨R,rfl,by rw[e];exact z⟩
          · rw[Zb e];rcases Nat.lt_succ_iff_lt_or_eq.1 a0 with s | s
            · exact hm j t s
            · subst s;exact (e hy).elim
      · rw[AK];refine Ok.mk ⟨m,rfl,O,U,λy hy=>?_⟩;obtain⟨j,t,rfl⟩:=mem_iff_getElem.1 hy;exact hm.2 j t t
      · obtain⟨R,rfl,z⟩:=Q;dsimp only;refine (jD x.Xd h.gx.short.lives).bind λo ho=>?_;obtain⟨V,rfl,hV⟩:=ho;exact Ok.mk ⟨rfl,L,R,V,rfl,z,N,hV⟩
def nmV (x:Qc) (W:Wd) (k i:Nat) (n:Str):Int:=if n=[] then 0 else g3 W k i (AD (kd x k) n).toNat
structure Cl (x:Qc) (c:Nat->Nat) (W:Wd):Prop where
  low:∀k,k<x.Xa.length->(kd x k).Lo<=c k/\(c k:Int)<=(kd x k).Hi
  key:∀k,k<x.Xa.length->IX (fd x k 0).Lo (c k) (λi=>g3 W k i 0)
  num:∀k i f,k<x.Xa.length->i<c k->f<nf x k->(fd x k f).Xi=2->(fd x k f).Lo<=g3 W k i f/\g3 W k i f<=(fd x k f).Hi
  day:∀k i f,k<x.Xa.length->i<c k->f<nf x k->(fd x k f).Xi=4->(fd x k f).Lo<=g3 W k i f - nmV x W k i (fd x k f).Of/\g3 W k i f - nmV x W k i (fd x k f).Of<=(fd x k f).Hi
  oth:∀k i f,k<x.Xa.length->i<c k->f<nf x k->OthF x W k i f
  sum:∀k i f,k<x.Xa.length->i<c k->f<nf x k->(fd x k f).Xi=6->SumG x c W k i f
  rule:∀r∈x.Xc,∀k i:Nat,Q3 x r.Xi=k->i<c k->nmV x W k i r.A<=nmV x W k i r.B+r.N
  deg:∀k f u j:Nat,k<x.Xa.length->f<nf x k->(fd x k f).Xi=1->upIx x k f=u->j<c u->(fd x k f).Lo<=kc (colW (c k) W k f) j/\kc (colW (c k) W k f) j<=(fd x k f).Hi
theorem U3 {x:Qc} (hc:AN x=[]) {k f:Nat} (a:k<x.Xa.length) (hf:f<nf x k) (h0:(fd x k f).Xi=0):f=0:=by have h:=GH hc a hf;unfold Be at h;rw[Zc h0] at h;have⟨h,_⟩:=CN h dc;have:=Zy h;omega
theorem Jc {x:Qc} (e:Gx x) (hc:AN x=[]) {k f:Nat} (b:k<x.Xa.length) (hf:f<nf x k) (d:(fd x k f).Xi=7) (h:OthF x W k i f):0<=g3 W k i f/\g3 W k i f<=1010:=by have l:=h.share d;have m:=e.fd b hf;have hp:AH (fd x k f)=true:=(Cz ((Ce hc).kind _ (Cq b))).2.2 _ (Ev hf);unfold AH Av at hp;simp only[Zh] at hp;have a:=hp.2;rw[Zb om,Zb om,Zb om,Zb om,Zb om,Zb om,Zb om,Zc d,Zh] at a;have g:=BS a.2;omega
theorem rl_kc (W:Wd) (k f j:Nat):∀n,((rl W k f j n).length:Int)=kc (colW n W k f) j
  | 0=>rfl
  | n+1=>by
    have e:colW (n+1) W k f=colW n W k f++[g3 W k n f]:=by unfold colW;rw[Ym,Yu];rfl
    have a:=rl_kc W k f j n;unfold kc at a ⊢;rw[P2,e,Ze,count_append,count_singleton];by_cases h:g3 W k n f=(j:Int)
    · rw[Zc h,Zc (sa h)];simp only[Zj,Zm];omega
    · rw[Zb h,Zb (sa h)];simp only[Zm];omega
def Ei (W:Wd) (o a:Nat):Lz->Int
  | []=>0
  | v::l=>g3 W o v.toNat a+Ei W o a l
theorem NO (W:Wd) (o a:Nat) (v:Int):∀l,Ei W o a (l++[v])=Ei W o a l+g3 W o v.toNat a
  | []=>by show g3 W o v.toNat a+0=0+_;omega
  | b::l=>by show _+Ei W o a (l++[v])=(_+Ei W o a l)+_;rw[NO W o a v l];omega
theorem U4 (W:Wd) (o a g i:Nat):∀n,Ei W o a (rl W o g i n)=C8 W o a g i n
  | 0=>rfl
  | n+1=>by
    show _=C8 W o a g i n+if g3 W o n g=(i:Int) then g3 W o n a else 0;rw[P2,<-U4 W o a g i n];by_cases h:g3 W o n g=(i:Int)
    · rw[Zc h,Zc h,NO,Zu]
    · rw[Zb h,Zb h,Yg];omega
theorem jF {l:List Bool} (h:l.length<=12):Ok (Ml l) (λr=>r.length<=12/\∀n:Nat,n<l.length->l.getD n false=true->(n:Int)∈r):=by
  unfold Ml;refine Ok.bind (P:=λr:Lz=>r.length<=12/\∀n:Nat,n<l.length->l.getD n false=true->(n:Int)∈r) (Ok.cnt l.length (λi s=>s.length<=i/\∀n:Nat,n<i->l.getD n false=true->(n:Int)∈s) ⟨sm,λn f=>om⟩ (λi s hi a=>?_) λs a=>by rw[AK];exact Ok.mk ⟨by have:=a.1;dsimp only;omega,a.2⟩) λr b=>Ok.mk b;rw[AL hi,Ai (d:=false) hi];dsimp only[ob];refine Ok.bind (P:=λr:Lz=>r.length<=i+1/\∀n:Nat,n<i+1->l.getD n false=true->(n:Int)∈r) (Ok.ite (λ_=>Ok.rm (by have:=a.1;simp;omega) (Ok.mk ⟨by have:=a.1;simp;omega,λn f ht=>?_⟩)) λhf=>Ok.mk ⟨by have:=a.1;omega,λn f ht=>?_⟩) λr b=>Ok.mk ⟨QD hi om,b⟩
  · by_cases e:n=i
    · rw[e];exact mem_append_right _ (mem_singleton_self _)
    · exact mem_append_left _ (a.2 n om ht)
  · by_cases e:n=i
    · rw[e,hf] at ht;cases ht
    · exact a.2 n om ht
theorem jG {l:Lz} (h:l.length<=1000) (v:Int):Ok (Mc l v) (λb=>v∈l->b=true):=by
  unfold Mc Pf;refine Ok.bind (P:=λr:Int=>v∈l->0<=r) (Ok.bind (P:=λe:Unit⊕Int=>match e with | .inl _=>¬v∈l | .inr r=>0<=r) (Ok.cnt0 l.length (λi=>∀j (a:j<l.length),j<i->l[j]≠v) (λj _ a=>om) (λi hi g=>?_) λg=>by rw[AK];exact Ok.mk λd=>by have⟨j,a,e⟩:=mem_iff_getElem.1 d;exact g j a a e) λr f=>by cases r<;>exact Ok.mk (by dsimp only at f ⊢;first | exact λd=>(f d).elim | exact λ_=>f)) λr f=>Ok.mk λd=>by have:=f d;simpa using this
  rw[AL hi,QY hi];dsimp only[ob];refine Ok.ite (λ_=>Ok.mk (by dsimp only;omega)) λhne=>Ok.mk ⟨QD hi om,λj a m=>?_⟩;rcases Nat.lt_succ_iff_lt_or_eq.1 m with n | n
  · exact g j a n
  · subst n;intro e;rw[e] at hne;simp at hne
theorem jH {l:List α} {p:α->Bool} {y:α} (h:idx l (AV l p)=some y):l.find? p=some y:=by
  unfold AV at h
  cases e:l.findIdx? p with
  | none=>rw[e] at h;exact absurd h (by unfold idx;rw[Zb dc];simp)
  | some g=>rw[e] at h;have⟨a,b,d⟩:=ZZ.1 e;rw[show idx l (g:Int)=some l[g] from QY a] at h;cases h;exact find?_eq_some_iff_getElem.2 ⟨b,g,a,rfl,λj f=>by have:=d j f;simpa using this⟩
section
variable {L:List Qh} {R:MpK Qh (List Lz)} {V:MpK Str Qm}
def OutG (x:Qc) (c:Nat->Nat) (W:Wd) (n:Nat) (o:List Qy):Prop:=EN n o/\(Cl x c W->o=[])
theorem OutG.Xo {a b:Nat} {o:List Qy} (h:OutG x c W a o) (d:a<=b):OutG x c W b o:=⟨h.1.Xo d,h.2⟩
theorem NP {X:Qc} {d:Wd} {g:List Qh} {h:MpK Qh (List Lz)} {l:MpK Str Qm} {o:List Qy} {k a f e:Int} {n:Nat} (s:n<=1000000) (t:0<=k) (b:OutG x c W n o) (u:Cl x c W->e=0):Ok (Dw ⟨X,d,g,h,l,o⟩ k a f [e]) (λr=>∃o,r=⟨X,d,g,h,l,o⟩/\OutG x c W (n+1) o):=by
  obtain⟨r,e1,v,rfl,w⟩:=add_ok (ck:=⟨X,d,g,h,l,o⟩) (k:=k) (a:=a) (f:=f) (e:=e) s t b.1;refine⟨_,e1,v,rfl,w,λhc=>?_⟩;have h0:=u hc;have m:=b.2 hc;subst h0 m;have e2:Dw ⟨X,d,g,h,l,[]⟩ k a f [0]=some ⟨X,d,g,h,l,[]⟩:=by
    have key:Ok (Dw ⟨X,d,g,h,l,[]⟩ k a f [0]) (λr=>r=⟨X,d,g,h,l,[]⟩):=by
      unfold Dw;refine Ok.bind (P:=λo:List Qy=>o=[]) (Ok.cnt [(0:Int)].length (λ_ o=>o=[]) rfl (λi o hi b=>?_) λo b=>by rw[AK];exact Ok.mk b) λo b=>Ok.mk (by rw[b]);have p:i=0:=by have:i<1:=hi;omega
      subst p;rw[AL hi];exact Ok.mk ⟨rfl,b⟩
    obtain⟨r,e,rfl⟩:=key;exact e
  rw[e2] at e1;have:=Zn e1;injection this with _ _ _ _ _ q;exact q.symm
theorem sum_kp (h:Old x c W) (hc:CkX x c W L R) {o:List Qy} {k f:Nat} (v:k<x.Xa.length) (hi:i<c k) (hf:f<nf x k) (C:(fd x k f).Xi=6):Ok (M2 ⟨x,W,L,R,V,o⟩ k i f) (λr=>Cl x c W->r=g3 W k i f):=by
  have⟨m,a,e,F,hm,ha,y,H⟩:=GI h.clean v hf C;have⟨g,u,e2,I,D,z,K,M⟩:=EI h.clean hm ha (.inl y);have:u=k:=by omega
  subst this;have hl:=hc.all m g u hm I D z;have⟨l,N,A,B⟩:=hc.refs _ hl;unfold M2;dsimp only;rw[S1 h.few,e];dsimp only[ob];rw[AQ hm];dsimp only[ob];rw[C0 ha];dsimp only[ob];rw[DZ (h.fields hm),e2];dsimp only[ob];rw[Oi (hc.link _ hl) (by have:=h.kinds;omega) (λk v=>by have:=h.nf v;omega),N];dsimp only[Option.bind_some,Option.getD_some];have p:l.length=c u:=A;have q:l.getD i []=rl W m g i (c m):=B i hi;rw[Ai (d:=[]) (show i<l.length by rw[p];exact hi),q];dsimp only[ob];have O:=U1 W m g i (c m);have Q:=h.le m hm;have S:Cl x c W->∀t,t<=(rl W m g i (c m)).length->0<=Ei W m a ((rl W m g i (c m)).take t)/\Ei W m a ((rl W m g i (c m)).take t)<=1010 * (t:Int):=λn t=>by
    induction t with
    | zero=>intro _;rw[take_zero];show 0<=(0:Int)/\(0:Int)<=_;omega
    | succ t E=>intro ht;have E:=E om;rw[NL om,NO];have⟨b,eb,hb⟩:=U2 (Dr (d:=0) (show t<(rl W m g i (c m)).length by omega));rw[eb,Zu];have:=Jc h.gx h.clean hm ha y (n.oth m b a hm hb ha);omega
  refine Ok.bind (P:=λr:Int=>Cl x c W->r=Ei W m a (rl W m g i (c m))) (Ok.cnt (rl W m g i (c m)).length (λt s=>Cl x c W->s=Ei W m a ((rl W m g i (c m)).take t)) (λ_=>by rw[take_zero];rfl) (λt s ht w=>?_) λs w=>by rw[AK];exact Ok.mk λn=>by rw[Zw (Zq _)] at w;exact w n) λr T=>Ok.mk λn=>?_
  · have⟨b,eb,hb⟩:=U2 (Dr (d:=0) ht);rw[AL ht,Ai (d:=0) ht,eb];dsimp only[ob];refine Ok.g1 h.sh hm (Ok.g2 h.sh hm hb (Ok.g3 h.sh hm hb ha (Ok.mk ⟨QD ht om,λn=>?_⟩)));have D:=S n t om;have U:=Jc h.gx h.clean hm ha y (n.oth m b a hm hb ha);dsimp only;rw[NL ht,NO,eb,Zu,w n,w64 om om]
  · rw[T n,U4];exact (n.sum u i f v hi hf C m a g e e2).symm
theorem jI (h:Old x c W) (hc:CkX x c W L R) (hV:NN x.Xd V) {o:List Qy} {k f:Nat} (p:k<x.Xa.length) (hi:i<c k) (hf:f<nf x k) {m:Mp Bool} (hm:∃l,m=some l/\(Cl x c W->∀v,mget l v≠none->∃j,(j<i\/j=i/\0<f)/\g3 W k j 0=v)):
    Ok (NA ⟨x,W,L,R,V,o⟩ k i f m) (λr=>(∃l,r.2=some l/\(Cl x c W->∀v,mget l v≠none->∃j,(j<i\/j=i/\0<f+1)/\g3 W k j 0=v))/\(Cl x c W->r.1=0)):=by
  obtain⟨z,rfl,A⟩:=hm;have hs:AH (fd x k f)=true:=(Cz ((Ce h.clean).kind _ (Cq p))).2.2 _ (Ev hf);have w:Li (fd x k f):=EJ hs;have a5:=((h.row k i p hi).2 f hf).1;have s:∀{e:Int},(Cl x c W->e=0)->(∃l,((e,some z):Int×Mp Bool).2=some l/\(Cl x c W->∀v,mget l v≠none->∃j,(j<i\/j=i/\0<f+1)/\g3 W k j 0=v))/\(Cl x c W->((e,some z):Int×Mp Bool).1=0):=λhe=>⟨⟨z,rfl,λa v w=>by have⟨j,H,e⟩:=A a v w;exact⟨j,om,e⟩⟩,he⟩;unfold NA;dsimp only;rw[AQ p];dsimp only[ob];refine Ok.g1 h.sh p (Ok.g2 h.sh p hi ?_);rw[C0 hf];dsimp only[ob];apply Ok.g3 h.sh p hi hf;have out:∀n,(Cl x c W->(fd x k f).Lo<=n/\n<=(fd x k f).Hi)->Ok ((JE n (fd x k f)).bind λt=>(some (t,some z):Option (Int×Mp Bool))) (λr=>(∃l,r.2=some l/\(Cl x c W->∀v,mget l v≠none->∃j,(j<i\/j=i/\0<f+1)/\g3 W k j 0=v))/\(Cl x c W->r.1=0)):=λn I=>by unfold JE;rw[E4];refine Ok.mk (s λa=>?_);have:=I a;rw[Zb];simp only[ZG,Zk];omega
  refine Ok.ite (λh0=>?_) λh0=>?_
  · have O:(fd x k f).Xi=0:=by simpa using h0
    have Q:=U3 h.clean p hf O;subst Q;refine Ok.ite (λK=>Ok.mk (s λa=>?_)) λK=>?_
    · have:=(a.key k p).lo i hi;have:=Zt K;omega
    · show Ok ((some (some (mset z _ true)):Option (Mp Bool)).bind _) _;dsimp only[ob];rw[E4];refine Ok.mk ⟨⟨_,rfl,λa v w=>?_⟩,λa=>?_⟩
      · rw[BO] at w;by_cases q:v=g3 W k i 0
        · exact⟨i,.inr ⟨rfl,om⟩,q.symm⟩
        · rw[Zb q] at w;have⟨j,H,e⟩:=A a v w;exact⟨j,om,e⟩
      · dsimp only;rw[Zb];intro ht;have:mget z (g3 W k i 0)≠none:=λe=>by
          have e':AY (some z:Mp Bool) (g3 W k i 0)=none:=e;rw[e'] at ht;cases ht
        have⟨j,H,e⟩:=A a _ this;exact (a.key k p).ne i j om hi e
  refine Ok.bind (P:=λb=>b=true->(fd x k f).Xi=2\/(fd x k f).Xi=7) (Ok.ite (λS=>Ok.mk λ_=>.inl (sa S)) λ_=>Ok.mk λT=>.inr (sa T)) λb hb=>?_;refine Ok.ite (λU=>out _ λa=>?_) λ_=>?_
  · rcases hb U with S | T
    · exact a.num k i f p hi hf S
    · exact (a.oth k i f p hi hf).share T
  refine Ok.ite (λh3=>?_) λ_=>?_
  · have B:(fd x k f).Xi=3:=by simpa using h3
    have⟨p1,p2⟩:=w.pick B;refine Ok.opt (P:=λt=>Cl x c W->t>0) (λhb=>?_) λt ht=>?_
    · have M:0<=g3 W k i f/\g3 W k i f<(fd x k f).Words.length:=by
        have:((decide (g3 W k i f<0))||(decide (g3 W k i f>=((fd x k f).Words.length:Int))))=false:=by simpa using hb
        simp only[Bool.or_eq_false_iff,ZI] at this;omega
      rw[w64 (n:=((fd x k f).Words.length:Int) - 1) om om];have e:imax 0 (imin (g3 W k i f) (((fd x k f).Words.length:Int) - 1))=((g3 W k i f).toNat:Int):=by unfold imax imin;split<;>split<;>omega
      rw[e];refine Ok.eq (Ai (d:=0) om) λa=>?_;have⟨n,N,I,hp⟩:=Gl.1 ((a.oth k i f p hi hf).pick B);rw[N,Zu];exact Zt hp
    · rw[E4];refine Ok.mk (s λa=>?_);have⟨n,N,I,hp⟩:=Gl.1 ((a.oth k i f p hi hf).pick B);have F:((decide (g3 W k i f<0))||(decide (g3 W k i f>=((fd x k f).Words.length:Int))))=false:=by
        simp only[Bool.or_eq_false_iff,ZI];omega
      have:=ht (by rw[F];rfl) a;rw[F,Bool.false_or,Zb so]
  refine Ok.ite (λh4=>?_) λ_=>?_
  · have C:(fd x k f).Xi=4:=by simpa using h4
    refine Ok.bind (P:=λv=>Cl x c W->(fd x k f).Lo<=v/\v<=(fd x k f).Hi) (Ok.ite (λX=>?_) λX=>Ok.mk λa=>?_) λv w=>out v w
    · have y:(fd x k f).Of≠[]:=by simpa using X
      have⟨g,e,Y,_⟩:=HU h.clean p hf C y;rw[DZ (h.fields p),e];dsimp only[ob];have a6:=((h.row k i p hi).2 g om).1;refine Ok.g3 h.sh p hi (show g<nf x k by omega) (Ok.mk λa=>?_);have:=a.day k i f p hi hf C;unfold nmV at this;rw[Zb y,e,Zu] at this;unfold g3 at *;rw[w64 om om];exact this
    · have y:(fd x k f).Of=[]:=by simpa using X
      have:=a.day k i f p hi hf C;unfold nmV at this;rw[Zc y] at this;omega
  refine Ok.ite (λh5=>?_) λ_=>?_
  · have Z:(fd x k f).Xi=5:=by simpa using h5
    have⟨r,er,hr⟩:=jJ ((Ax V (fd x k f).Of).getD ⟨[],[],[]⟩) (fd x k f).Lo (fd x k f).Hi;rw[er];dsimp only[ob];have a0:Cl x c W->pI r (λt=>t) (g3 W k i f)=true:=λa=>by have⟨lf,rc,e1,e2,_,e3⟩:=(a.oth k i f p hi hf).step Z;rw[hV,jH e1,ZS,e2] at er;cases er;exact e3
    refine Ok.opt (P:=λt:Lz=>t.length<=12/\∀n:Nat,n<r.length->r.getD n false=true->(n:Int)∈t) (λ_=>jF hr) λt ht=>?_;refine Ok.opt (P:=λb=>g3 W k i f∈t->b=true) (λhb=>jG (by have:=(ht hb).1;omega) _) λb hb=>?_;rw[E4];refine Ok.mk (s λa=>?_);have⟨n,N,I,hp⟩:=Gl.1 (a0 a);have F:((decide (g3 W k i f<0))||(decide (g3 W k i f>=(r.length:Int))))=false:=by simp only[Bool.or_eq_false_iff,ZI];omega
    have M:=hb (by rw[F];rfl) (by rw[N];exact (ht (by rw[F];rfl)).2 n I hp);rw[F,M];rfl
  refine Ok.ite (λh6=>?_) λ_=>?_
  · refine (sum_kp h hc p hi hf (sa h6)).bind λt ht=>?_;rw[E4];refine Ok.mk (s λa=>?_);rw[ht a,Zb sm]
  refine Ok.ite (λh8=>?_) λ_=>Ok.mk (s λ_=>rfl);have D:(fd x k f).Xi=8:=by simpa using h8
  have⟨g,u,e,Y,h1,E,a1,a2⟩:=EI h.clean p hf (.inr D);have⟨a3,e2,a4⟩:=aS h.clean p hf D a1 a2;have⟨j,ej,H⟩:=h.ref p hi Y h1 E;unfold Pn;dsimp only;rw[AQ p];dsimp only[ob];rw[DZ (h.fields p),e];dsimp only[ob];rw[GZ h.few,E,h.g2k p hi Y,ej];dsimp only[ob];have hu:u<x.Xa.length:=by omega
  refine Ok.g1 h.sh hu (Ok.g2 h.sh hu H ?_);rw[AQ hu];dsimp only[ob];rw[DZ (h.fields hu),e2];dsimp only[ob];apply Ok.g3 h.sh hu H a4;rw[E4];refine Ok.mk (s λa=>?_);rw[(a.oth k i f p hi hf).copy D g u a3 j e E e2 ej,Zb sm]
theorem jK (h:Old x c W) {k:Nat} (l:k<x.Xa.length) (hi:i<c k) {r:QL} (m:r∈x.Xc) (q:Q3 x r.Xi=k):Ok (Mq (kd x k) (g2 W k i) r) (λb=>Cl x c W->b=true):=by
  have⟨f,e,_,_,s⟩:=Kd h.clean m;have:f=k:=by omega
  subst this;have one:∀n,n=r.A\/n=r.B->Ok (I9 n (g2 W f i) (kd x f)) (λv=>v=nmV x W f i n/\-4000000<=v/\v<=4000000):=λn o=>by
    unfold I9 nmV;refine Ok.ite (λt=>Ok.mk ⟨by rw[Zc (sa t)],dc,dc⟩) λhne=>?_;have d:n≠[]:=by simpa using hne
    have⟨g,e,p,_⟩:=s n o d;rw[DZ (h.fields l),e];dsimp only[ob];refine Ok.g3 h.sh l hi p (Ok.mk ⟨by rw[Zb d,Zu],?_⟩);exact ((h.row f i l hi).2 g p).1
  have w:=Uv h.clean m;unfold Mq;refine (one _ (.inl rfl)).bind λa ha=>(one _ (.inr rfl)).bind λb hb=>Ok.mk λu=>?_;have:=u.rule r m f i e hi;rw[w64 om om,Zk];omega
theorem U5 (h:Old x c W):Ok (JQ x W) (λr=>(∀p∈r,0<=p.Xi)/\(Cl x c W->r=[])):=by
  have Q:=h.kinds;have N:=(Ce h.clean).rules;unfold JQ;refine (jE h).bind λr A=>?_;have⟨e0,L,R,V,e1,hc,Y,hV⟩:=A;rw[e0,e1];dsimp only[ob];rw[Zb dc];refine Ok.bind (P:=λq=>∃o,q=(x,W,L,R,V,o)/\OutG x c W 6 o) (Ok.cnt W.length (λi q=>∃o,q=(x,W,L,R,V,o)/\OutG x c W i o) ⟨[],rfl,by simp[EN,OutG]⟩ (λk q z a=>?_) λq a=>?_) λq a=>?_
  · obtain⟨o,rfl,g⟩:=a;have m:k<x.Xa.length:=by rw[<-h.sh.len];exact z
    rw[AL z];apply Ok.g1 h.sh m;rw[AQ m,h.sh.row k m];dsimp only[ob];refine Ok.opt (P:=λy=>y=kd x k) (λ_=>Ok.mk rfl) λy hy=>?_;rw[E4];dsimp only[ob];refine (NP (n:=k) om om g λB=>?_).bind λr A=>?_
    · have:=B.low k m;have O:decide (((c k:Nat):Int)<(kd x k).Lo)=false:=by rw[ZI];omega
      rw[hy (by rw[O];rfl),O,Bool.false_or,Zb (by rw[Zk];omega)]
    · obtain⟨o',rfl,s⟩:=A;exact Ok.mk ⟨QD z (by rw[h.sh.len];omega),o',rfl,s⟩
  · obtain⟨o,rfl,g⟩:=a;rw[AK];exact Ok.mk ⟨o,rfl,g.Xo (by rw[h.sh.len];omega)⟩
  obtain⟨o,rfl,g⟩:=a;dsimp only;refine Ok.bind (P:=λq=>∃o,q=(x,W,L,R,V,o)/\OutG x c W 100000 o) (Ok.cnt W.length (λk q=>∃o,q=(x,W,L,R,V,o)/\OutG x c W (6+k * 6000) o) ⟨o,rfl,by simpa using g⟩ (λk q z a=>?_) λq a=>?_) λq a=>?_
  · obtain⟨o,rfl,g⟩:=a;have m:k<x.Xa.length:=by rw[<-h.sh.len];exact z
    have I:=h.le k m;have Z:=h.nf m;rw[AL z];apply Ok.g1 h.sh m;refine Ok.bind (P:=λq=>∃o,q=(x,W,L,R,V,o)/\OutG x c W (6+(k+1) * 6000) o) (Ok.cnt (g1 W k).length (λi q=>∃o l,q=(x,W,L,R,V,o,some l)/\OutG x c W (6+k * 6000+i * 100) o/\(Cl x c W->∀v,mget l v≠none->∃j,j<i/\g3 W k j 0=v)) ⟨o,[],rfl,by simpa using g,λ_ v D=>(D rfl).elim⟩ (λi q hi a=>?_) λq a=>?_) λq a=>?_
    · obtain⟨o,l,rfl,g,hl⟩:=a;have C:i<c k:=by rw[h.sh.row k m] at hi;exact hi
      rw[AL hi];apply Ok.g2 h.sh m C;have hlen:=h.sh.fld k i m C;refine Ok.bind (P:=λq=>∃o l,q=(x,W,L,R,V,o,some l)/\OutG x c W (6+k * 6000+i * 100+9) o/\(Cl x c W->∀v,mget l v≠none->∃j,j<i+1/\g3 W k j 0=v)) (Ok.cnt (g2 W k i).length (λf q=>∃o l,q=(x,W,L,R,V,o,some l)/\OutG x c W (6+k * 6000+i * 100+f) o/\(Cl x c W->∀v,mget l v≠none->∃j,(j<i\/j=i/\0<f)/\g3 W k j 0=v)) ⟨o,l,rfl,by simpa using g,λB v D=>by have⟨j,w,e⟩:=hl B v D;exact⟨j,.inl w,e⟩⟩ (λf q hf a=>?_) λq a=>?_) λq a=>?_
      · obtain⟨o,l,rfl,g,hl⟩:=a;have K:f<nf x k:=by rw[hlen] at hf;exact hf
        rw[AL hf];dsimp only;refine (jI h hc hV m C K ⟨l,rfl,hl⟩).bind λt ht=>?_;have⟨⟨S,M,E⟩,H⟩:=ht;refine (NP (n:=6+k * 6000+i * 100+f) om om g H).bind λr A=>?_;obtain⟨o',rfl,s⟩:=A;rw[M];exact Ok.mk ⟨QD hf om,o',S,rfl,s,E⟩
      · obtain⟨o,l,rfl,g,hl⟩:=a;rw[AK];exact Ok.mk ⟨o,l,rfl,g.Xo om,λB v D=>by have⟨j,w,e⟩:=hl B v D;exact⟨j,om,e⟩⟩
      · obtain⟨o,l,rfl,g,hl⟩:=a;dsimp only;refine Ok.bind (P:=λq=>∃o,q=(x,W,L,R,V,o)/\OutG x c W (6+k * 6000+(i+1) * 100) o) (Ok.cnt x.Xc.length (λj q=>∃o,q=(x,W,L,R,V,o)/\OutG x c W (6+k * 6000+i * 100+9+j) o) ⟨o,rfl,by simpa using g⟩ (λj q w a=>?_) λq a=>?_) λq a=>?_
        · obtain⟨o,rfl,g⟩:=a;rw[AL w,QY w];dsimp only[ob];rw[GB om];dsimp only[ob];refine Ok.opt (P:=λy=>y=kd x k) (λ_=>Ok.eq (AQ m) rfl) λy hy=>?_;refine Ok.opt (P:=λb=>Cl x c W->b=true) (λH=>?_) λb hb=>?_
          · rw[hy H];exact jK h m C (Zr w) (sa H)
          · rw[E4];dsimp only[ob];refine (NP (n:=6+k * 6000+i * 100+9+j) om om g λB=>?_).bind λr A=>?_
            · cases a:(Q3 x x.Xc[j].Xi==(k:Int)) with
              | false=>rfl
              | true=>rw[hb (by rw[a];rfl) B];rfl
            · obtain⟨o',rfl,s⟩:=A;exact Ok.mk ⟨QD w om,o',rfl,s⟩
        · obtain⟨o,rfl,g⟩:=a;rw[AK];exact Ok.mk ⟨o,rfl,g.Xo om⟩
        · obtain⟨o,rfl,g⟩:=a;exact Ok.mk ⟨QD hi (by rw[h.sh.row k m];omega),o,l,rfl,g,hl⟩
    · obtain⟨o,l,rfl,g,_⟩:=a;rw[AK];exact Ok.mk ⟨o,rfl,g.Xo (by rw[h.sh.row k m];omega)⟩
    · obtain⟨o,rfl,g⟩:=a;exact Ok.mk ⟨QD z (by rw[h.sh.len];omega),o,rfl,g⟩
  · obtain⟨o,rfl,g⟩:=a;rw[AK];exact Ok.mk ⟨o,rfl,g.Xo (by rw[h.sh.len];omega)⟩
  obtain⟨o,rfl,g⟩:=a;dsimp only;refine Ok.bind (P:=λq=>∃o,q=(x,W,L,R,V,o)/\(∀p∈o,0<=p.Xi)/\(Cl x c W->o=[])) (Ok.cnt L.length (λj q=>∃o,q=(x,W,L,R,V,o)/\OutG x c W (100000+j * 100) o) ⟨o,rfl,by simpa using g⟩ (λj q w a=>?_) λq a=>?_) λq a=>?_
  · obtain⟨o,rfl,g⟩:=a;rw[AL w,QY w];dsimp only[ob];have hy:=hc.link _ (Zr w);have⟨l,M,hl,F⟩:=hc.refs _ (Zr w);have T:=Oi hy om (λk z=>by have:=h.nf z;omega);have⟨k,f,u,e,z,hf,U,hu,X⟩:=hy;rw[T,M];rw[e] at hl F ⊢;have I:=h.le u om;have E:l.length=c u:=hl;dsimp only[ob];rw[AQ z];dsimp only[ob];rw[C0 hf];dsimp only[Option.bind_some,Option.getD_some];refine Ok.bind (P:=λq=>∃o,q=(x,W,L,R,V,o)/\OutG x c W (100000+(j+1) * 100) o) (Ok.cnt l.length (λi q=>∃o,q=(x,W,L,R,V,o)/\OutG x c W (100000+j * 100+i) o) ⟨o,rfl,by simpa using g⟩ (λi q hi a=>?_) λq a=>?_) λq a=>?_
    · obtain⟨o,rfl,g⟩:=a;rw[AL hi,Ai (d:=[]) hi];dsimp only[ob];rw[E4];dsimp only[ob];refine (NP (n:=100000+j * 100+i) om om g λB=>?_).bind λr A=>?_
      · have hx:l.getD i []=rl W k f i (c k):=F i (by show i<c u;omega);have:=B.deg k f u i z hf U hu om;rw[<-rl_kc] at this;rw[hx,Zb];simp only[ZG,Zk];omega
      · obtain⟨o',rfl,s⟩:=A;exact Ok.mk ⟨QD hi om,o',rfl,s⟩
    · obtain⟨o,rfl,g⟩:=a;rw[AK];exact Ok.mk ⟨o,rfl,g.Xo om⟩
    · obtain⟨o,rfl,g⟩:=a;exact Ok.mk ⟨QD w om,o,rfl,g⟩
  · obtain⟨o,rfl,g⟩:=a;rw[AK];exact Ok.mk ⟨o,rfl,g.1.2,g.2⟩
  · obtain⟨o,rfl,g⟩:=a;exact Ok.mk g
end

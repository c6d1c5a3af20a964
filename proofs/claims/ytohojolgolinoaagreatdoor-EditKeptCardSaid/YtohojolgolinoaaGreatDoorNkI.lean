/- edit.World: what it gives is a made world; a made world is given again. No condition. -/
import Derived.Test.YtohojolgolinoaaGreatDoorNeM
set_option linter.all false
open List Go.IntKind
namespace Go.Proofs.YtohojolgolinoaaGreatDoor
open Go.Sim
variable {β:Type} {f':Qe} {q':QA} {i:Nat} {α γ:Type} {r:Str->Str} {x:Qc} {c:Nat->Nat} {W:Wd} {B:Int} {q:Lz} {k f:Nat}
structure Dn (x:Qc) (c:Nat->Nat) (B:Int) (k:Nat) (W:Wd):Prop where
  key:IX (fd x k 0).Lo (c k) (λi=>g3 W k i 0)
  kb:∀i,i<c k->g3 W k i 0<=B
  ref:∀f u:Nat,f<nf x k->(fd x k f).Xi=1->upIx x k f=u->RK (colW (c k) W k f) (c u) (fd x k f).Lo (fd x k f).Hi
  val:∀i,i<c k->SolV x k (rowV x k i W)
  oth:∀i f,i<c k->f<nf x k->OthF x W k i f
structure Good (x:Qc) (c:Nat->Nat) (B:Int) (W:Wd):Prop where
  dn:∀k,k<x.Xa.length->Dn x c B k W
  sum:∀k i f,k<x.Xa.length->i<c k->f<nf x k->(fd x k f).Xi=6->SumG x c W k i f
def Lows (x:Qc) (q:Lz):Prop:=∀k,k<x.Xa.length->(kd x k).Lo<=q.getD k 0
theorem NR {n:Nat} {W V:Wd} {k f:Nat} (h:∀i,i<n->g3 V k i f=g3 W k i f):colW n V k f=colW n W k f:=by unfold colW;exact map_congr_left λi hi=>h i (Yd.1 hi)
section
variable {co:Nat->Nat} {old:Wd}
theorem Dn.of {V:Wd} {k:Nat} (hc:AN x=[]) (b:k<x.Xa.length) (h:Dn x c B k W) (e:∀a i f,a<=k->(fd x a f).Xi≠6->g3 V a i f=g3 W a i f):Dn x c B k V:=by
  have⟨_,l⟩:=HW hc b;have e0:∀i,g3 V k i 0=g3 W k i 0:=λi=>e k i 0 (Zq _) om;refine⟨⟨λi hi=>by rw[e0];exact h.key.lo i hi,λi j m hi=>by rw[e0,e0];exact h.key.ne i j m hi⟩,λi hi=>by rw[e0];exact h.kb i hi,λf u hf n hu=>?_,λi hi=>?_,λi f hi hf=>?_⟩
  · rw[NR λi _=>e k i f (Zq _) om];exact h.ref f u hf n hu
  · rw[Kh λf hf=>e k i f (Zq _) (by have:=FU hf;omega)];exact h.val i hi
  · by_cases o:(fd x k f).Xi=6
    · exact⟨λq=>om,λq=>om,λq=>om,λq=>om⟩
    · exact (h.oth i f hi hf).of hc b hf (e k i f (Zq _) o) (λg d=>e k i g (Zq _) om) λu j g hu d=>e u j g om d
theorem Dn.refs {k:Nat} (h:Dn x c B k W):Ex x c k W:=λi f u hi hf a hu=>by have hm:=(h.ref f u hf a hu).mem (g3 W k i f) (by rw[<-Kf hi];exact Dr (by rw[GC];exact hi));exact⟨(g3 W k i f).toNat,om,om⟩
theorem jL (h:Old x co old) (hl:q.length=x.Xa.length) (u:CL x q):Ok (NH x old q) (λr=>(r=0\/r=14)/\(r=0->Lows x q)/\(Lows x q->r=0)):=by
  have A:=h.kinds;have hb:∀v∈q,0<=v/\v<=62:=λv b=>by
    obtain⟨i,hi,rfl⟩:=mem_iff_getElem.1 b;have:=u.2 i hi;have:=h.gx.kd (k:=i) om;have e:q.getD i 0=q[i]:=by rw[Zg,Zd hi];rfl
    omega
  unfold NH;refine (U5 h).bind λt ht=>?_;refine Ok.opt (P:=λy=>0<=y.Xi) (λa=>?_) λy hy=>?_
  · have j:(0:Int)<t.length:=by simpa using a
    have⟨v,e,b⟩:=Cj (l:=t) (i:=0) (Zx _) j;exact Ok.eq e (ht.1 v b)
  refine Ok.ite (λa=>?_) λ_=>?_
  · rw[Zh] at a;have:=hy (by rw[a.1];rfl);have:=Zt a.2;omega
  have e1:((q.length:Int) !=(x.Xa.length:Int))=false:=by rw[hl];simp
  rw[e1,IP q (λx0=>Pa x0) (λn=>decide (n<0)) (λ_ _=>rfl) om];have e2:q.any (λn=>decide (n<0))=false:=by rw[any_eq_false];intro v b;have:=hb v b;simp;omega
  rw[e2];show Ok ((EE q (λx0=>MW x0)).bind _) _;rw[IP q (λx0=>MW x0) (λn=>decide (n>62)) (λ_ _=>rfl) om];have C:q.any (λn=>decide (n>62))=false:=by rw[any_eq_false];intro v b;have:=hb v b;simp;omega
  rw[C];dsimp only[ob];rw[Zb dc];refine Ok.bind (P:=λe:Unit⊕Int=>match e with | .inl _=>Lows x q | .inr r=>r=14/\¬Lows x q) (Ok.cnt0 q.length (λi=>∀k,k<i->(kd x k).Lo<=q.getD k 0) (λk m=>om) (λi hi o=>?_) λo=>by rw[AK];exact Ok.mk λk m=>o k om) λe w=>?_
  · have g:i<x.Xa.length:=by omega
    rw[AL hi,Ai (d:=0) hi];dsimp only[ob];rw[AQ g];dsimp only[ob];refine Ok.opt (P:=λy=>y=kd x i) (λ_=>Ok.mk rfl) λy hy=>Ok.ite (λa=>Ok.mk ⟨rfl,λp=>?_⟩) λa=>Ok.mk ⟨QD hi om,λk m=>?_⟩
    · have E:=p i g;have F:=(u.2 i hi).2;rw[decide_eq_false (by omega:¬q.getD i 0<(kd x i).Lo),Bool.false_or,Zk] at a;rw[hy (by rw[decide_eq_false (by omega:¬q.getD i 0<(kd x i).Lo)];rfl)] at a;omega
    · rcases Nat.lt_succ_iff_lt_or_eq.1 m with s | s
      · exact o k s
      · subst s;rw[Bool.or_eq_false_iff,ZI] at a;omega
  · cases e with
    | inl _=>exact Ok.mk ⟨.inl rfl,λ_=>w,λ_=>rfl⟩
    | inr r=>obtain⟨rfl,D⟩:=w;exact Ok.mk ⟨.inr rfl,λh0=>absurd (show (14:Int)=0 from h0) dc,λp=>(D p).elim⟩
theorem U6 (hc:AN x=[]) {k f:Nat} (a:k<x.Xa.length) (hf:f<nf x k):(fd x k f).Xi=0/\f=0\/(fd x k f).Xi=1\/isV x k f=true\/Al x k f\/(fd x k f).Xi=6:=by
  have hp:AH (fd x k f)=true:=(Cz ((Ce hc).kind _ (Cq a))).2.2 _ (Ev hf);have hb:=(EJ hp).kind;by_cases h0:(fd x k f).Xi=0
  · exact .inl ⟨h0,U3 hc a hf h0⟩
  unfold isV Al;simp only[ZG,Yj];omega
theorem U7 (h:Old x co old) (hl:q.length=x.Xa.length) (hq:CL x q) {S:Int} (hS:1010<=S/\S<=3000000) (c2:∀k i,k<x.Xa.length->i<co k->g3 old k i 0<=S):
    Ok (Gk x old q) (λr=>((r.2.2=0/\Sh x.Xa.length (cN q) (nf x) r.1/\Good x (cN q) (S+60) r.1/\Lows x q)\/r.2.2=14)/\(∀B,(∀k,k<x.Xa.length->co k=cN q k)->Good x co B old->Lows x q->r=(old,0,0))):=by
  have e6:=h.kinds;have A:∀k,k<x.Xa.length->cN q k<=60:=λk n=>by have:=(hq.2 k om).2;have:=Ey hq (k:=k) om;have:=h.gx.kd n;omega
  generalize c3:cN q=c at A ⊢
  let E:Prop:=∃B,(∀k,k<x.Xa.length->co k=c k)/\Good x co B old/\Lows x q
  have a7:E->∀k,k<x.Xa.length->∃B,Dn x c B k old:=λ⟨B,s,hG,_⟩ k n=>by have H:=hG.dn k n;have c4:=s k n;refine⟨B,⟨λi hi=>H.key.lo i om,λi j Y hi=>H.key.ne i j Y om⟩,λi hi=>H.kb i om,λf u hf v hu=>?_,λi hi=>H.val i om,λi f hi=>H.oth i f om⟩;have⟨u',e',_⟩:=Hc h.clean n hf (.inl v);have I:=H.ref f u hf v hu;rw[c4,s u om] at I;exact I
  unfold Gk;refine (jL h hl hq).bind λe K=>?_;have⟨c5,c6,c7⟩:=K;refine Ok.ite (λhne=>Ok.mk ⟨.inr ?_,λB _ _ hL=>?_⟩) λhne=>?_
  · rcases c5 with rfl | rfl
    · cases hne
    · rfl
  · rw[c7 hL] at hne;cases hne
  have D:Lows x q:=c6 (sa hne);rw[Dp _ _ om];dsimp only[ob];refine Ok.bind (aH h hl hq) λZ hZ=>?_;rw[c3] at hZ;have⟨c8,c9⟩:=hZ
  let b6:Nat->Wd->Prop:=λk W=>∀d i f,d<k->i<c d->f<nf x d->(fd x d f).Xi≠6->g3 W d i f=g3 old d i f
  refine Ok.bind (P:=λe:(Wd×Qc×Wd)⊕(Wd×Int×Int)=>match e with | .inl p=>p.2=(x,old)/\Sh x.Xa.length c (nf x) p.1/\(∀k,k<x.Xa.length->Dn x c (S+60) k p.1)/\(∀k i f,(fd x k f).Xi=6->g3 p.1 k i f=0)/\(E->b6 x.Xa.length p.1) | .inr p=>p.2.2=14/\¬E)
    (Ok.cnt q.length (λk p=>p.2=(x,old)/\Sh x.Xa.length c (nf x) p.1/\(∀d,d<k->Dn x c (S+60) d p.1)/\(∀k i f,(fd x k f).Xi=6->g3 p.1 k i f=0)/\(E->b6 k p.1)) ⟨rfl,c8,λk n=>om,λk i f _=>c9 k i f,λ_ d i f n=>om⟩ (λk p n hp=>?_) λp hp=>by rw[AK];exact Ok.mk ⟨hp.1,hp.2.1,λk n=>hp.2.2.1 k om,hp.2.2.2.1,λa=>by have:=hp.2.2.2.2 a;rw[hl] at this;exact this⟩) λe K=>?_
  · have⟨W,X,O⟩:=p;have⟨e,w1,w2,w3,w4⟩:=hp;dsimp only at e w1 w2 w3 w4 ⊢;cases e;have l:k<x.Xa.length:=by omega
    have h9:=h.nf l;have⟨N,e7⟩:=HW h.clean l;rw[AL n];refine (aE h w1 l (A k l) (S:=S) ⟨hS.1,om⟩ λi hi=>c2 k i l hi).bind λm hm=>?_;obtain⟨W1,rfl,a1,a2,a3,a4,a5⟩:=hm;rw[AQ l];dsimp only[ob];have a8:E->co k=c k:=λ⟨B,s,_⟩=>s k l;refine Ok.bind (P:=λe:(Qc×Wd×Wd)⊕(Wd×Int×Int)=>match e with | .inl p=>∃V,p=(x,old,V)/\Sh x.Xa.length c (nf x) V/\Kp (B8 k (λf=>(fd x k f).Xi=1)) W1 V/\(∀f u:Nat,f<nf x k->(fd x k f).Xi=1->upIx x k f=u->RK (colW (c k) V k f) (c u) (fd x k f).Lo (fd x k f).Hi)/\(E->∀i f,i<c k->f<nf x k->(fd x k f).Xi=1->g3 V k i f=g3 old k i f) | .inr p=>p.2.2=14/\¬E)
      (Ok.cnt (kd x k).Xb.length (λf p=>∃V,p=(x,old,V)/\Sh x.Xa.length c (nf x) V/\Kp (B8 k (λf'=>(fd x k f').Xi=1/\f'<f)) W1 V/\(∀f' u:Nat,f'<f->(fd x k f').Xi=1->upIx x k f'=u->RK (colW (c k) V k f') (c u) (fd x k f').Lo (fd x k f').Hi)/\(E->∀i f',i<c k->f'<f->(fd x k f').Xi=1->g3 V k i f'=g3 old k i f')) ⟨W1,rfl,a1,Kp.refl _ _,λf' u hf=>om,λ_ i f' _ hf=>om⟩ (λf p hf hp=>?_) λp hp=>?_) λe K=>?_
    · obtain⟨V,rfl,v1,v2,v3,Q⟩:=hp;have b7:f<nf x k:=hf;dsimp only;rw[AL hf,fd_idx' k hf];dsimp only[ob];by_cases v:(fd x k f).Xi=1
      · have⟨u,hu,e3⟩:=Hc h.clean l b7 (.inl v);have ec:((fd x k f).Xi==(1:Int))=true:=by simpa using v
        rw[ec];refine Ok.opt (P:=λr=>∃W',r.2=⟨x,old,W'⟩/\Sh x.Xa.length c (nf x) W'/\(r.1=0->Kp (B8 k (·=f)) V W'/\RK (colW (c k) W' k f) (c u) (fd x k f).Lo (fd x k f).Hi)/\(c k<=co k->RK (colW (c k) old k f) (c u) (fd x k f).Lo (fd x k f).Hi->r.1=0/\∀i,i<c k->g3 W' k i f=g3 old k i f)) (λ_=>iX h v1 l A b7 hu e3) λr hr=>?_;have⟨V2,er,b1,b2,b3⟩:=hr rfl;have b8:E->r.1=0/\∀i,i<c k->g3 V2 k i f=g3 old k i f:=λa=>by have⟨B,H⟩:=a7 a k l;exact b3 (by rw[a8 a];exact Zq _) (H.ref f u b7 v hu)
        refine Ok.ite (λhne=>Ok.mk ⟨rfl,λa=>?_⟩) λhne=>?_
        · rw[(b8 a).1] at hne;cases hne
        have⟨b4,b5⟩:=b2 (sa hne);show Ok (some (Sum.inl (_,r.2.x,r.2.old,r.2.w))) _;rw[er];refine Ok.mk ⟨QD hf (by unfold nf at h9;omega),V2,rfl,b1,?_,λf' u' a0 C I=>?_,λa i f' hi a0 C=>?_⟩
        · exact (v2.Xo λd i f' b=>⟨b.1,b.2.1,by have:=b.2.2;omega⟩).step (b4.Xo λd i f' b=>⟨b.1,by rw[b.2];exact v,by have:=b.2;omega⟩)
        · by_cases e:f'=f
          · subst e;have:u'=u:=by omega
            subst this;exact b5
          · rw[NR λi _=>b4 k i f' λb=>e b.2];exact v3 f' u' om C I
        · by_cases e:f'=f
          · subst e;exact (b8 a).2 i hi
          · rw[b4 k i f' (λb=>e b.2)];exact Q a i f' hi om C
      · have ec:((fd x k f).Xi==(1:Int))=false:=by simpa using v
        rw[ec];refine Ok.mk ⟨QD hf (by unfold nf at h9;omega),V,rfl,v1,v2.Xo λd i f' b=>⟨b.1,b.2.1,by have:=b.2.2;omega⟩,λf' u' a0 C I=>?_,λa i f' hi a0 C=>?_⟩
        · rcases Nat.lt_succ_iff_lt_or_eq.1 a0 with b | b
          · exact v3 f' u' b C I
          · subst b;exact (v C).elim
        · rcases Nat.lt_succ_iff_lt_or_eq.1 a0 with b | b
          · exact Q a i f' hi b C
          · subst b;exact (v C).elim
    · rw[AK];obtain⟨V,rfl,v1,v2,v3,Q⟩:=hp;exact Ok.mk ⟨V,rfl,v1,v2.Xo λd i f' b=>⟨b.1,b.2.1⟩,v3,Q⟩
    · cases e with
      | inr p=>exact Ok.mk K
      | inl p=>
        obtain⟨V,rfl,v1,v2,v3,Q⟩:=K;dsimp only;refine (iY h v1 l (A k l)).bind λr hr=>?_;have⟨U,er,b2,b3⟩:=hr;have b9:E->r.1=0/\∀i f,i<c k->f<nf x k->isV x k f=true->g3 U k i f=g3 old k i f:=λa=>by have⟨B,H⟩:=a7 a k l;exact b3 (by rw[a8 a];exact Zq _) H.val
        refine Ok.ite (λhne=>Ok.mk ⟨rfl,λa=>?_⟩) λhne=>?_
        · rw[(b9 a).1] at hne;cases hne
        have⟨u1,u2,u3⟩:=b2 (sa hne);rw[er];dsimp only;apply Ok.g1 u1 l;rw[u1.row k l];have a9:∀f u:Nat,f<nf x k->(fd x k f).Xi=1->upIx x k f=u->RK (colW (c k) U k f) (c u) (fd x k f).Lo (fd x k f).Hi:=λf u hf v hu=>by rw[NR λi _=>u2 k i f λb=>by have:=FU b.2;omega];exact v3 f u hf v hu
        have ur:Ex x c k U:=λi f u hi hf v hu=>by have hm:=(a9 f u hf v hu).mem (g3 U k i f) (by rw[<-Kf hi];exact Dr (by rw[GC];exact hi));exact⟨(g3 U k i f).toNat,om,om⟩
        -- what the steps so far leave as it was
        have c0:∀d i f,d≠k->g3 U d i f=g3 W d i f:=λd i f hne=>by rw[u2 d i f (λb=>hne b.1),v2 d i f (λb=>hne b.1),a2 d i f (λb=>hne b.1)]
        refine Ok.bind (P:=λp:Qc×Wd×Wd=>∃T,p=(x,old,T)/\Sh x.Xa.length c (nf x) T/\Kp (B8 k (Al x k)) U T/\(∀i f,i<c k->f<nf x k->OthF x T k i f)/\(E->∀i f,i<c k->f<nf x k->Al x k f->g3 T k i f=g3 old k i f))
          (Ok.cnt (c k) (λi p=>∃T,p=(x,old,T)/\Sh x.Xa.length c (nf x) T/\Kp (B8 k (Al x k)) U T/\(∀F f,F<i->f<nf x k->OthF x T k F f)/\(E->∀F f,F<i->f<nf x k->Al x k f->g3 T k F f=g3 old k F f)) ⟨U,rfl,u1,Kp.refl _ _,λi f hi=>om,λ_ i f hi=>om⟩ (λi p hi hp=>?_) λp hp=>by rw[AK];exact Ok.mk hp) λp hp=>?_
        · obtain⟨T,rfl,t1,t2,t3,t4⟩:=hp;rw[AL hi];refine (iQ h t1 l hi (ur.kp t2 λi f v b=>by have:=b.2;unfold Al at this;omega)).bind λm hm=>?_;obtain⟨T2,rfl,s1,s2,s3,s4⟩:=hm;refine Ok.mk ⟨QD hi (by have:=A k l;omega),T2,rfl,s1,t2.step (s2.Xo λd F f b=>⟨b.1,b.2.2⟩),λF f L hf=>?_,λa F f L hf R=>?_⟩
          · rcases Nat.lt_succ_iff_lt_or_eq.1 L with b | b
            · exact (t3 F f b hf).of h.clean l hf (s2 _ _ _ λz=>om) (λg _=>s2 _ _ _ λz=>om) λu j g hu _=>s2 _ _ _ λz=>by omega
            · subst b;exact s3 f hf
          · rcases Nat.lt_succ_iff_lt_or_eq.1 L with b | b
            · rw[s2 _ _ _ λz=>om];exact t4 a F f b hf R
            · subst b;have⟨B,H⟩:=a7 a k l;refine s4 (by rw[a8 a];exact hi) (λf hf=>H.oth F f hi hf) ⟨λg hg v=>?_,λu j g hu hg=>?_⟩ f hf R
              · rw[t2 k F g (λb=>by have:=b.2;unfold Al at this;omega),u2 k F g (λb=>by have:=FU b.2;omega)];exact Q a F g hi hg v
              · rw[t2 u j g (λb=>by have:=b.1;omega),c0 u j g om];have M:u<x.Xa.length:=by omega
                by_cases Y:j<c u
                · by_cases e4:g<nf x u
                  · exact w4 a u j g hu Y e4 hg
                  · have o1:g3 W u j g=0:=by
                      unfold g3;rw[Zg,getElem?_eq_none (by rw[w1.fld u j M Y];omega)];rfl
                    have o2:g3 old u j g=0:=by
                      unfold g3;have:co u=c u:=by have⟨B,s,_⟩:=a;exact s u M
                      rw[Zg,getElem?_eq_none (by rw[h.sh.fld u j M om];omega)];rfl
                    rw[o1,o2]
                · have o1:g3 W u j g=0:=by
                    have e0:g2 W u j=[]:=by unfold g2;rw[Zg,getElem?_eq_none (by rw[w1.row u M];omega)];rfl
                    unfold g3;rw[e0];rfl
                  have o2:g3 old u j g=0:=by
                    have:co u=c u:=by have⟨B,s,_⟩:=a;exact s u M
                    have e0:g2 old u j=[]:=by unfold g2;rw[Zg,getElem?_eq_none (by rw[h.sh.row u M];omega)];rfl
                    unfold g3;rw[e0];rfl
                  rw[o1,o2]
        · obtain⟨T,rfl,t1,t2,t3,t4⟩:=hp;have fr:∀d i f,d≠k->g3 T d i f=g3 W d i f:=λd i f hne=>by
            rw[t2 d i f (λb=>hne b.1),c0 d i f hne]
          have k0:∀i,g3 T k i 0=g3 W1 k i 0:=λi=>by rw[t2 k i 0 (λb=>by have:=b.2;unfold Al at this;omega),u2 k i 0 (λb=>by have:=FU b.2;omega),v2 k i 0 (λb=>by have:=b.2;omega)]
          refine Ok.mk ⟨QD n om,rfl,t1,λd a6=>?_,λd i f w=>?_,λa d i f a6 hi hf c1=>?_⟩
          · rcases Nat.lt_succ_iff_lt_or_eq.1 a6 with b | b
            · exact (w2 d b).of h.clean om λk2 i f e5 _=>fr k2 i f om
            · subst b;refine⟨⟨λi hi=>by dsimp only;rw[k0];exact a3.lo i hi,λi j Y hi=>by dsimp only;rw[k0,k0];exact a3.ne i j Y hi⟩,λi hi=>by dsimp only;rw[k0];exact a4 i hi,λf u hf v hu=>?_,λi hi=>?_,t3⟩
              · dsimp only;rw[NR λi _=>t2 d i f λb=>by have:=b.2;unfold Al at this;omega];exact a9 f u hf v hu
              · dsimp only;rw[Kh λf hf=>t2 d i f λb=>by have:=FU hf;have:=b.2;unfold Al at this;omega];exact u3 i hi
          · dsimp only;by_cases b:d=k
            · subst b;rw[t2 d i f (λb=>by have:=b.2;unfold Al at this;omega),u2 d i f (λb=>by have:=FU b.2;omega),v2 d i f (λb=>by have:=b.2;omega),a2 d i f (λb=>by have e0:f=0:=b.2;rw[e0] at w;omega)];exact w3 d i f w
            · rw[fr d i f b];exact w3 d i f w
          · dsimp only;rcases Nat.lt_succ_iff_lt_or_eq.1 a6 with b | b
            · rw[fr d i f om];exact w4 a d i f b hi hf c1
            · subst b;rcases U6 h.clean l hf with⟨_,rfl⟩ | v | hv | R | w
              · rw[k0];have⟨B,H⟩:=a7 a d l;exact a5 (by rw[a8 a];exact Zq _) H.key i hi
              · rw[t2 d i f (λb=>by have:=b.2;unfold Al at this;omega),u2 d i f (λb=>by have:=FU b.2;omega)];exact Q a i f hi hf v
              · rw[t2 d i f (λb=>by have:=FU hv;have:=b.2;unfold Al at this;omega)];exact (b9 a).2 i f hi hf hv
              · exact t4 a i f hi hf R
              · exact (c1 w).elim
  · cases e with
    | inr p=>exact Ok.mk ⟨.inr K.1,λB s hG hL=>(K.2 ⟨B,s,hG,hL⟩).elim⟩
    | inl p=>
      have⟨W,X,O⟩:=p;have⟨e,w1,w2,w3,w4⟩:=K;dsimp only at e w1 w2 w3 w4 ⊢;cases e;refine Ok.bind (P:=λp:Wd×Qc×Wd=>Sh x.Xa.length c (nf x) p.1/\Good x c (S+60) p.1/\(E->b6 x.Xa.length p.1))
        (Ok.cnt q.length (λk p=>p.2=(x,old)/\Sh x.Xa.length c (nf x) p.1/\(∀k i f,(fd x k f).Xi≠6->g3 p.1 k i f=g3 W k i f)/\(∀d i f,k<=d->(fd x d f).Xi=6->g3 p.1 d i f=0)/\∀d i f,d<k->i<c d->f<nf x d->(fd x d f).Xi=6->SumG x c p.1 d i f) ⟨rfl,w1,λ_ _ _ _=>rfl,λd i f _=>w3 d i f,λd i f n=>om⟩ (λk p n hp=>?_) λp hp=>?_) λp hp=>?_
      · have⟨V,X,O⟩:=p;have⟨e,v1,v2,v3,Q⟩:=hp;dsimp only at e v1 v2 v3 Q ⊢;cases e;have l:k<x.Xa.length:=by omega
        rw[AL n];have dV:∀k,k<x.Xa.length->Dn x c (S+60) k V:=λk n=>(w2 k n).of h.clean n λd i f _ N=>v2 d i f N;refine (jB h v1 l A (λk n=>(dV k n).refs) (λi f _ _ w=>v3 k i f (Zq _) w) λo j a R Y ha h7=>Jc h.gx h.clean R ha h7 ((dV o R).oth j a Y ha)).bind λm hm=>?_;obtain⟨U,rfl,u1,u2,u3⟩:=hm;refine Ok.mk ⟨QD n om,rfl,u1,λd i f N=>?_,λd i f e5 w=>?_,λd i f a6 hi hf w=>?_⟩
        · dsimp only;rw[u2 d i f λb=>by have w:=b.2;have K:=b.1;subst K;exact N w];exact v2 d i f N
        · dsimp only;rw[u2 d i f λb=>by have K:=b.1;omega];exact v3 d i f om w
        · rcases Nat.lt_succ_iff_lt_or_eq.1 a6 with b | b
          · refine (Q d i f b hi hf w).of h.clean om hf w (u2 d i f λhA=>by have:=hA.1;omega) λk2 i2 f2 _ _ _ N=>u2 k2 i2 f2 λhA=>by have w:=hA.2;have K:=hA.1;subst K;exact N w
          · subst b;exact u3 i f hi hf w
      · rw[AK];have⟨e,v1,v2,v3,Q⟩:=hp;refine Ok.mk ⟨v1,⟨λk n=>(w2 k n).of h.clean n λd i f _ N=>v2 d i f N,λk i f n=>Q k i f om⟩,λa k i f n hi hf N=>?_⟩;rw[v2 k i f N];exact w4 a k i f n hi hf N
      · have⟨p1,p2,p3⟩:=hp;have b0:E->p.1=old:=λa=>by
          have⟨B,s,hG,_⟩:=a;refine sh_ext h.sh p1 (λk n=>(s k n).symm) λk i f n hi hf=>?_;have L:i<c k:=by rw[<-s k n];exact hi
          by_cases w:(fd x k f).Xi=6
          · have⟨o,a,e1,e8,R,ha,h7,e9⟩:=GI h.clean n hf w;have⟨g,u,e2,hg,v,_⟩:=EI h.clean R ha (.inl h7);rw[p2.sum k i f n L hf w o a g e1 e2,hG.sum k i f n hi hf w o a g e1 e2,s o R];exact NM λj Y=>⟨p3 ⟨B,s,hG,D⟩ o j g R Y hg om,p3 ⟨B,s,hG,D⟩ o j a R Y ha om⟩
          · exact p3 ⟨B,s,hG,D⟩ k i f n L hf w
        by_cases a:E
        · rw[b0 a,jC h.sh om (λk n=>by have:=h.le k n;omega) λk n=>by have:=h.nf n;omega];have e:=b0 a;rw[e] at p1 p2;exact Ok.mk ⟨.inl ⟨rfl,p1,p2,D⟩,λ_ _ _ _=>rfl⟩
        · exact (aF h.sh p1 om (λk n=>by have:=h.le k n;omega) λk n=>by have:=h.nf n;omega).bind λt _=>Ok.mk ⟨.inl ⟨rfl,p1,p2,D⟩,λB s hG hL=>(a ⟨B,s,hG,hL⟩).elim⟩
end
theorem P3 {k g:Nat} (a:g<nf x k) (b:isV x k g=true):vv ((vals x k).length+1) (rowV x k i W) (rowN ((vals x k).length+1) (Au x k g:Int))=g3 W k i g:=by have⟨hp,e⟩:=FT a b;rw[OT];unfold vv;rw[Zb om,H3 hp,e]
theorem U8 {k:Nat}:vv ((vals x k).length+1) (rowV x k i W) (rowN ((vals x k).length+1) (-1))=0:=by rw[Sg];exact Zc rfl
theorem U9 {k:Nat} {n:Str} (h:n≠[]->∃g:Nat,AD (kd x k) n=g/\g<nf x k/\isV x k g=true/\(fd x k g).Xj=n):vv ((vals x k).length+1) (rowV x k i W) (rowN ((vals x k).length+1) (Bo x k n))=nmV x W k i n:=by
  unfold Bo nmV;by_cases e:n=[]
  · rw[Zc e,Zc e];exact U8
  · have⟨g,e1,a,b,_⟩:=h e;rw[Zb e,Zb e,e1,Zu];exact P3 a b
theorem VA (hc:AN x=[]) {k f:Nat} (s:k<x.Xa.length) (hf:f<nf x k) (o:isV x k f=true) (p:SolV x k (rowV x k i W)):(fd x k f).Lo<=g3 W k i f - (if (fd x k f).Xi=4 then nmV x W k i (fd x k f).Of else 0)/\g3 W k i f - (if (fd x k f).Xi=4 then nmV x W k i (fd x k f).Of else 0)<=(fd x k f).Hi:=by
  have⟨hp,e⟩:=FT hf o;have b:=p _ (H4 hp (d:=⟨(Au x k f:Int),Bc x k ((vals x k).getD (Au x k f) 0),(fd x k ((vals x k).getD (Au x k f) 0)).Hi⟩) (by simp[Cy]));have j:=p _ (H4 hp (d:=⟨Bc x k ((vals x k).getD (Au x k f) 0),(Au x k f:Int),-(fd x k ((vals x k).getD (Au x k f) 0)).Lo⟩) (by simp[Cy]));dsimp only at b j;rw[e,P3 hf o] at b j;have t:vv ((vals x k).length+1) (rowV x k i W) (rowN ((vals x k).length+1) (Bc x k f))=if (fd x k f).Xi=4 then nmV x W k i (fd x k f).Of else 0:=by
    unfold Bc;by_cases a:(fd x k f).Xi=4/\(fd x k f).Of≠[]
    · have⟨g,e1,u,l,_⟩:=HU hc s hf a.1 a.2;have m:isV x k g=true:=by unfold isV;rw[l];rfl
      rw[Zc a,Zc a.1,e1,Zu,P3 om m];unfold nmV;rw[Zb a.2,e1,Zu]
    · rw[Zb a,U8];by_cases h:(fd x k f).Xi=4
      · have n:(fd x k f).Of=[]:=Classical.byContradiction λn=>a ⟨h,n⟩;rw[Zc h];unfold nmV;rw[Zc n]
      · rw[Zb h]
  rw[t] at b j;omega
theorem jM (hc:AN x=[]) (b:Good x c B W) (g:∀k,k<x.Xa.length->(kd x k).Lo<=c k/\(c k:Int)<=(kd x k).Hi):Cl x c W:=by
  refine⟨g,λk a=>(b.dn k a).key,λk i f a hi hf o=>?_,λk i f a hi hf n=>?_,λk i f a hi hf=>(b.dn k a).oth i f hi hf,b.sum,λr l k i d hi=>?_,λk f u j a hf p hu m=>((b.dn k a).ref f u hf p hu).deg j m⟩
  · have:=VA hc a hf (by unfold isV;rw[o];rfl) ((b.dn k a).val i hi);rw[Zb om] at this;omega
  · have:=VA hc a hf (by unfold isV;rw[n];rfl) ((b.dn k a).val i hi);rw[Zc n] at this;exact this
  · have⟨h,e,a,_⟩:=Kd hc l;have:h=k:=by omega
    subst this;obtain⟨j,m,rfl⟩:=mem_iff_getElem.1 l;have hm:QH.mk (Bo x h x.Xc[j].A) (Bo x h x.Xc[j].B) x.Xc[j].N∈dfS x h:=by unfold dfS;refine mem_append_right _ (Ya.2 ⟨j,Yd.2 m,?_⟩);unfold EF;rw[Zd m];dsimp only;rw[Zc d];exact mem_singleton_self _
    have:=(b.dn h a).val i hi _ hm;dsimp only at this;rw[U9 (HV hc l d (.inl rfl)),U9 (HV hc l d (.inr rfl))] at this;exact this
theorem jN (w:Gx x) (hc:AN x=[]) (D:Good x c B W) (V:B<=4000000) (h:∀k,k<x.Xa.length->c k<=60):∀k,k<x.Xa.length->∀i f,i<c k->f<nf x k->-4000000<=g3 W k i f/\g3 W k i f<=4000000:=by
  intro k
  induction k using Nat.strongRecOn with
  | _ k M=>
    intro b i f hi hf;have m:=D.dn k b;have N:AH (fd x k f)=true:=(Cz ((Ce hc).kind _ (Cq b))).2.2 _ (Ev hf);rcases U6 hc b hf with⟨_,rfl⟩ | p | O | s | K
    · have p:=m.key.lo i hi;have X:=m.kb i hi;have E:=w.fd b hf;omega
    · have⟨u,hu,l⟩:=Hc hc b hf (.inl p);have⟨j,L,A⟩:=m.refs i f u hi hf p hu;have:=h u om;omega
    · have⟨hp,e⟩:=FT hf O;have:=Uw w hc b (Eg _) (m.val i hi) (Au x k f) (by rw[Eg];exact hp);rw[H3 hp,e] at this;omega
    · have d:=m.oth i f hi hf;rcases s with E | P | C | F
      · have⟨n,Q,R,_⟩:=Gl.1 (d.pick E);have:=(Uq N E).1;omega
      · have⟨Y,Z,_,_,S,hp⟩:=d.step P;have⟨n,Q,R,_⟩:=Gl.1 hp;omega
      · have:=Jc w hc b hf C d;omega
      · have⟨g,u,e,t,p,v,H,l⟩:=EI hc b hf (.inr F);have⟨g',e2,I,_⟩:=P0 hc b hf F H l;have⟨j,L,A⟩:=m.refs i g u hi t p v;rw[d.copy F g u g' j e v e2 L];exact M u l om j g' A I
    · have⟨o,a,e1,T,s,ha,C,U⟩:=GI hc b hf K;have⟨g,u,e2,t,p,_⟩:=EI hc s ha (.inl C);rw[D.sum k i f b hi hf K o a g e1 e2];have:=P1 (W:=W) (o:=o) (a:=a) (g:=g) (i:=i) (n:=c o) λj A=>Jc w hc s ha C ((D.dn o s).oth j a A ha);have:=h o s;omega
theorem VB (d:Gx x) (hc:AN x=[]) (e:Sh x.Xa.length c (nf x) W) (g:Good x c B W) (h:B<=4000000) (a:∀k,k<x.Xa.length->c k<=60):Old x c W:=by refine⟨d,hc,e,λk i b hi=>⟨e.fld k i b hi,λf hf=>⟨jN d hc g h a k b i f hi hf,λl u hu=>?_⟩⟩,a⟩;have⟨j,m,n⟩:=(g.dn k b).refs i f u hi hf l hu;unfold g3 at m;omega
structure Re (r:Str->Str):Prop where
 inj:∀a b,r a=r b->a=b
 nil:r []=[]
theorem Re.eq (h:Re r) (a b:Str):(r a==r b)=(a==b):=by
 by_cases e:a=b
 ·subst e;simp
 ·have e':r a≠r b:=λd=>e (h.inj a b d);rw[beq_eq_false_iff_ne.2 e,beq_eq_false_iff_ne.2 e']
theorem Re.zero (h:Re r) (a:Str):(r a==[])=(a==[]):=by
 have:=h.eq a []
 rwa [h.nil] at this
def fkey (r:Str->Str) (f:Qe):Str×Str×Str×Int:=(r f.Xj,r f.Of,r f.Up,f.Xi)
def kkey (r:Str->Str) (k:QA):Str×List (Str×Str×Str×Int):=(r k.Xj,k.Xb.map (fkey r))
def rkey (r:Str->Str) (x:QL):Str×Str×Str×Str:=(r x.Xj,r x.Xi,r x.A,r x.B)
structure Ren (r:Str->Str) (x y:Qc):Prop where
 re:Re r
 kinds:y.Xa.map (kkey id)=x.Xa.map (kkey r)
 lives:y.Xd.map (·.Xj)=x.Xd.map λl=>r l.Xj
 rules:y.Xc.map (rkey id)=x.Xc.map (rkey r)
theorem NS {l:List α} {m:List β} {g:α->γ} {h:β->γ} (e:l.map g=m.map h) (i:Int):(idx l i=none/\idx m i=none)\/∃a b,idx l i=some a/\idx m i=some b/\g a=h b:=by
 have hl:l.length=m.length:=by simpa using ZU length e
 by_cases hi:0<=i
 ·rw[Ca _ hi,Ca _ hi];have:=ZU (·[i.toNat]?) e;simp only[Yc] at this
  cases j:l[i.toNat]? with
  | none=>
   rw[j] at this;left;refine⟨rfl,?_⟩
   cases d:m[i.toNat]? with
   | none=>rfl
   | some b=>rw[d] at this;cases this
  | some a=>
   rw[j] at this
   cases d:m[i.toNat]? with
   | none=>rw[d] at this;cases this
   | some b=>rw[d] at this;exact .inr ⟨a,b,rfl,rfl,by simpa using this⟩
 ·left;unfold idx;rw[Zb hi,Zb hi];exact⟨rfl,rfl⟩
theorem VC {l:List α} {m:List β} {g:α->γ} {h:β->γ} {p:α->Bool} {q:β->Bool} (s:γ->Bool) (e:l.map g=m.map h) (hp:∀a,p a=s (g a)) (d:∀b,q b=s (h b)):AV l p=AV m q:=by
 have e1:l.findIdx? p=(l.map g).findIdx? s:=by rw[findIdx?_map];congr;funext a;exact hp a
 have e2:m.findIdx? q=(m.map h).findIdx? s:=by rw[findIdx?_map];congr;funext a;exact d a
 unfold AV;rw[e1,e2,e]
theorem P4 {l:List α} {m:List β} {g:α->γ} {h:β->γ} {p:α->Bool} {q:β->Bool} (s:γ->Bool) (e:l.map g=m.map h) (hp:∀a,p a=s (g a)) (d:∀b,q b=s (h b)):l.any p=m.any q:=by
 have e1:l.any p=(l.map g).any s:=by rw[any_map];congr;funext a;exact hp a
 have e2:m.any q=(m.map h).any s:=by rw[any_map];congr;funext a;exact d a
 rw[e1,e2,e]
theorem VD {l:List α} {m:List β} {g:α->γ} {h:β->γ} (e:l.map g=m.map h) (i:Nat):(l.take i).map g=(m.take i).map h:=by rw[map_take,map_take,e]
section
variable {y:Qc}
theorem Ren.kind (h:Ren r x y) (n:Str):Q3 y (r n)=Q3 x n:=VC (λt=>t.1==r n) h.kinds (λ_=>rfl) (λb=>(h.re.eq b.Xj n).symm)
def KR (r:Str->Str) (q q':QA):Prop:=q'.Xj=r q.Xj/\q'.Xb.map (fkey id)=q.Xb.map (fkey r)
def FR (r:Str->Str) (f f':Qe):Prop:=f'.Xj=r f.Xj/\f'.Of=r f.Of/\f'.Up=r f.Up/\f'.Xi=f.Xi
theorem VE {f:Qe} (h:fkey id f'=fkey r f):FR r f f':=by unfold fkey at h;simp only[Yf,id] at h;exact h
theorem Ren.idx (h:Ren r x y) (k:Int):(Sim.idx y.Xa k=none/\Sim.idx x.Xa k=none)\/∃q' q,Sim.idx y.Xa k=some q'/\Sim.idx x.Xa k=some q/\KR r q q':=by
 rcases NS h.kinds k with d | ⟨a,b,d,g,e⟩
 ·exact .inl d
 ·refine .inr ⟨a,b,d,g,?_⟩;unfold kkey at e;simp only[Yf,id] at e;exact e
theorem KR.field (a:Re r) {q:QA} (h:KR r q q') (n:Str):AD q' (r n)=AD q n:=VC (λt=>t.1==r n) h.2 (λ_=>rfl) (λb=>(a.eq b.Xj n).symm)
theorem KR.idx {q:QA} (h:KR r q q') (j:Int):(Sim.idx q'.Xb j=none/\Sim.idx q.Xb j=none)\/∃f' f,Sim.idx q'.Xb j=some f'/\Sim.idx q.Xb j=some f/\FR r f f':=by
 rcases NS h.2 j with d | ⟨a,b,d,e,g⟩
 ·exact .inl d
 ·exact .inr ⟨a,b,d,e,VE g⟩
theorem KR.len {q:QA} (h:KR r q q'):q'.Xb.length=q.Xb.length:=by simpa using ZU length h.2
theorem VG (x:Qc) (k j:Int):field? x k j=(Sim.idx x.Xa k).bind λq=>Sim.idx q.Xb j:=by
 unfold field?;by_cases a:0<=k
 ·by_cases b:0<=j
  ·rw[Zc ⟨a,b⟩,Ca _ a];congr 1;funext q;rw[Ca _ b]
  ·rw[Zb om]
   cases Sim.idx x.Xa k with
   | none=>rfl
   | some q=>simp[Sim.idx,b]
 ·rw[Zb om];simp[Sim.idx,a]
theorem Ren.field (h:Ren r x y) (k j:Int):(field? y k j=none/\field? x k j=none)\/∃f' f,field? y k j=some f'/\field? x k j=some f/\FR r f f':=by
 rw[VG,VG];rcases h.idx k with⟨a,b⟩ | ⟨q',q,a,b,d⟩
 ·rw[a,b];exact .inl ⟨rfl,rfl⟩
 ·rw[a,b];exact d.idx j
theorem Ren.ref (h:Ren r x y) {f:Qe} (hf:FR r f f') (k:Int):DY y k f'=DY x k f:=by unfold DY;rw[hf.2.1,h.kind]
theorem Ren.up (h:Ren r x y) (k j:Int):upIx y k j=upIx x k j:=by
 unfold upIx;rcases h.field k j with⟨a,b⟩ | ⟨f',f,a,b,hf⟩
 ·rw[a,b]
 ·rw[a,b];dsimp only;rw[hf.2.2.2,h.ref hf];split
  ·rcases h.idx k with⟨e1,e2⟩ | ⟨q',q,e1,e2,e⟩
   ·rw[e1,e2]
   ·rw[e1,e2];dsimp only;rw[hf.2.2.1,e.field h.re];split
    ·rcases h.field k (AD q f.Up) with⟨a,b⟩ | ⟨g',g,a,b,d⟩
     ·rw[a,b]
     ·rw[a,b];dsimp only;rw[d.2.2.2,h.ref d]
    ·rfl
  ·rfl
theorem Ren.shl (h:Ren r x y) (o k:Int) (n:Str):shl y o k (r n)=shl x o k n:=by
 unfold Go.Proofs.YtohojolgolinoaaGreatDoor.shl;rcases h.idx o with⟨e1,e2⟩ | ⟨q',q,e1,e2,d⟩
 ·rw[e1,e2]
 ·rw[e1,e2];dsimp only;rw[d.len];congr 2
  funext i
  unfold DG;have:=d.idx (i:Int);rw[BN,BN] at this;rcases this with⟨a,b⟩ | ⟨f',f,a,b,hf⟩
  ·rw[a,b]
  ·rw[a,b];dsimp only;rw[hf.2.2.2,hf.2.1,h.re.eq,h.up]
theorem Ren.sum (h:Ren r x y) {f:Qe} (hf:FR r f f') (k:Int):B9 y k f'=B9 x k f:=by unfold B9;rw[hf.2.2.2,hf.2.1,h.kind,hf.1,h.shl]
theorem P5 (h:Re r):FR r Ar Ar:=⟨h.nil.symm,h.nil.symm,h.nil.symm,rfl⟩
theorem Ren.top (h:Ren r x y) {f:Qe} (hf:FR r f f') (k j:Int):(topS y k j f').2=(topS x k j f).2/\FR r (topS x k j f).1 (topS y k j f').1:=by
 unfold topS;rw[h.up];split
 ·exact⟨rfl,P5 h.re⟩
 ·rcases h.idx (upIx x k j) with⟨e1,e2⟩ | ⟨q',q,e1,e2,d⟩
  ·rw[e1,e2];exact⟨rfl,P5 h.re⟩
  ·rw[e1,e2];dsimp only;rw[hf.2.1,d.field h.re];rcases h.field (upIx x k j) (AD q f.Of) with⟨a,b⟩ | ⟨g',g,a,b,e⟩
   ·rw[a,b];exact⟨rfl,P5 h.re⟩
   ·rw[a,b];exact⟨rfl,e⟩
theorem Ren.lead (h:Ren r x y) {f:Qe} {q:QA} (hf:FR r f f') (e:KR r q q') (k j:Int):Be y q' k j f'=Be x q k j f:=by
 have⟨t1,t2⟩:=h.top hf k j;have hl:(y.Xd.any λl=>l.Xj==r f.Of)=x.Xd.any λl=>l.Xj==f.Of:=P4 (λt=>t==r f.Of) h.lives (λ_=>rfl) (λb=>(h.re.eq b.Xj f.Of).symm);have m:(r f.Of !=[])=(f.Of !=[]):=ZU not (h.re.zero f.Of);unfold Be Lr;rw[h.sum hf,t1,t2.2.1,h.kind,hf.2.2.2,hf.2.1,h.up,hl,m,e.field h.re,t2.2.2.2];rcases h.field k (AD q f.Of) with⟨a,d⟩ | ⟨g',g,a,d,n⟩
 ·rw[a,d]
 ·rw[a,d];dsimp only;rw[n.2.2.2]
theorem Ren.kindE (h:Ren r x y) {q:QA} (g:KR r q q') (i:Int):kindE y i q'=kindE x i q:=by
 unfold Go.Proofs.YtohojolgolinoaaGreatDoor.kindE;have:(q'.Xb.headD Ar).Xi=(q.Xb.headD Ar).Xi:=by
  have e:=g.2
  cases j:q'.Xb with
  | nil=>rw[j] at e;cases d:q.Xb with
   | nil=>rfl
   | cons b l=>rw[d] at e;cases e
  | cons a l=>rw[j] at e;cases d:q.Xb with
   | nil=>rw[d] at e;cases e
   | cons b m=>rw[d] at e;simp only[Ys,List.cons.injEq] at e;exact (VE e.1).2.2.2
 rw[g.1,h.kind,g.len,this]
theorem Ren.ruleAt (h:Ren r x y) (k:Int) (n:Str):(ruleAt y k (r n)).2=(ruleAt x k n).2/\(ruleAt y k (r n)).1.Xi=(ruleAt x k n).1.Xi:=by
 unfold Go.Proofs.YtohojolgolinoaaGreatDoor.ruleAt;rcases h.idx k with⟨e1,e2⟩ | ⟨q',q,e1,e2,d⟩
 ·rw[e1,e2];exact⟨rfl,rfl⟩
 ·rw[e1,e2];dsimp only;rw[d.field h.re];rcases h.field k (AD q n) with⟨a,b⟩ | ⟨g',g,a,b,e⟩
  ·rw[a,b];exact⟨rfl,rfl⟩
  ·rw[a,b];exact⟨rfl,e.2.2.2⟩
theorem Ren.rule (h:Ren r x y) {a b:QL} (d:rkey id b=rkey r a) (i:Nat):E1 y i b=E1 x i a:=by unfold rkey at d;simp only[Yf,id] at d;have⟨e,g,j,l⟩:=d;have ha:((y.Xc.take i).any λs=>s.Xj==r a.Xj)=(x.Xc.take i).any λs=>s.Xj==a.Xj:=P4 (λt=>t.1==r a.Xj) (VD h.rules i) (λ_=>rfl) (λb=>(h.re.eq b.Xj a.Xj).symm);unfold E1 A7 BP;rw[e,g,j,l,h.kind,ha,(h.ruleAt _ a.A).1,(h.ruleAt _ a.A).2,(h.ruleAt _ a.B).1,(h.ruleAt _ a.B).2,h.re.zero,h.re.zero,h.re.eq]
theorem NT {n:Nat} {f g:Nat->List β} (h:∀k,k<n->f k=g k):(range n).flatMap f=(range n).flatMap g:=by
 induction n with
 | zero=>rfl
 | succ n a=>rw[Ym,ZM,ZM,a λk b=>h k om];simp only[flatMap_cons,flatMap_nil];rw[h n om]
theorem Ren.check (h:Ren r x y) (hx:CT x=0) (hy:CT y=0):AN y=AN x:=by
 have n:y.Xa.length=x.Xa.length:=by simpa using ZU length h.kinds
 have o:y.Xd.length=x.Xd.length:=by simpa using ZU length h.lives
 have p:y.Xc.length=x.Xc.length:=by simpa using ZU length h.rules
 unfold AN;rw[Zc hx,Zc hy];unfold CX DF IQ;rw[n,o,p];congr 1
 ·congr 1
  ·refine NT λi _=>?_;unfold C2;have:=NS h.lives (i:Int);rw[BN,BN] at this;rcases this with⟨d,e⟩ | ⟨a,b,d,e,l⟩
   ·rw[d,e]
   ·rw[d,e];dsimp only;unfold L2;rw[l,P4 (q:=λm=>m.Xj==b.Xj) (λt=>t==r b.Xj) (VD h.lives i) (λ_=>rfl) (λc=>(h.re.eq c.Xj b.Xj).symm)]
  ·refine NT λi _=>?_;unfold Cf;have:=h.idx (i:Int);rw[BN,BN] at this;rcases this with⟨d,e⟩ | ⟨q',q,d,e,g⟩
   ·rw[d,e]
   ·rw[d,e];dsimp only;rw[h.kindE g];unfold GG;rw[g.len];congr 1;refine NT λj _=>?_;unfold De;have:=g.idx (j:Int);rw[BN,BN] at this;rcases this with⟨d,e⟩ | ⟨f',f,d,e,hf⟩
    ·rw[d,e]
    ·rw[d,e];dsimp only;unfold FW;rw[hf.1,g.field h.re,h.lead hf g]
 ·refine NT λi _=>?_;unfold EH;have:=NS h.rules (i:Int);rw[BN,BN] at this;rcases this with⟨d,e⟩ | ⟨a,b,d,e,l⟩
  ·rw[d,e]
  ·rw[d,e];dsimp only;rw[h.rule l]
end
structure Wid (x z:Qc):Prop where
  ren:Ren id x z
  lives:z.Xd=x.Xd
  rules:z.Xc=x.Xc
  kd:∀k,k<x.Xa.length->(kd z k).Lo=(kd x k).Lo/\(kd z k).Hi=(kd x k).Hi
  fd:∀k f,k<x.Xa.length->f<nf x k->(fd z k f).Words=(fd x k f).Words/\(fd z k f).Xf=(fd x k f).Xf/\((fd z k f).Lo<=(fd x k f).Lo/\(fd x k f).Hi<=(fd z k f).Hi)/\((fd x k f).Xi≠2->(fd z k f).Lo=(fd x k f).Lo/\(fd z k f).Hi=(fd x k f).Hi)
section
variable {z:Qc}
theorem Wid.len (h:Wid x z):z.Xa.length=x.Xa.length:=by simpa using ZU length h.ren.kinds
theorem Wid.kr (h:Wid x z) (b:k<x.Xa.length):KR id (Go.Proofs.YtohojolgolinoaaGreatDoor.kd x k) (Go.Proofs.YtohojolgolinoaaGreatDoor.kd z k):=by
  rcases h.ren.idx (k:Int) with⟨a,_⟩ | ⟨q',q,a,d,e⟩
  · rw[AQ (by rw[h.len];exact b)] at a;cases a
  · rw[AQ (by rw[h.len];exact b)] at a;rw[AQ b] at d;cases a;cases d;exact e
theorem Wid.nf (h:Wid x z) (a:k<x.Xa.length):nf z k=nf x k:=(h.kr a).len
theorem Wid.fr (h:Wid x z) (b:k<x.Xa.length) (hf:f<Go.Proofs.YtohojolgolinoaaGreatDoor.nf x k):FR id (Go.Proofs.YtohojolgolinoaaGreatDoor.fd x k f) (Go.Proofs.YtohojolgolinoaaGreatDoor.fd z k f):=by
  rcases (h.kr b).idx (f:Int) with⟨a,_⟩ | ⟨q',q,a,d,e⟩
  · rw[C0 (by rw[h.nf b];exact hf)] at a;cases a
  · rw[C0 (by rw[h.nf b];exact hf)] at a;rw[C0 hf] at d;cases a;cases d;exact e
theorem Wid.knd (h:Wid x z) (a:k<x.Xa.length) (hf:f<Go.Proofs.YtohojolgolinoaaGreatDoor.nf x k):(Go.Proofs.YtohojolgolinoaaGreatDoor.fd z k f).Xi=(Go.Proofs.YtohojolgolinoaaGreatDoor.fd x k f).Xi:=(h.fr a hf).2.2.2
theorem Wid.fix (h:Wid x z) (a:k<x.Xa.length) (n:Str):AD (Go.Proofs.YtohojolgolinoaaGreatDoor.kd z k) n=AD (Go.Proofs.YtohojolgolinoaaGreatDoor.kd x k) n:=(h.kr a).field re_id' n
where re_id':Re id:=⟨λ_ _ h=>h,rfl⟩
theorem Wid.share (h:Wid x z) (a b:Int):Du z a b=Du x a b:=by
  unfold Du;rcases h.ren.field a b with⟨d,e⟩ | ⟨f',f,d,e,hf⟩
  · rw[d,e]
  · rw[d,e];dsimp only;rw[h.ren.sum hf]
theorem Wid.isV (h:Wid x z) (a:k<x.Xa.length) (hf:f<Go.Proofs.YtohojolgolinoaaGreatDoor.nf x k):isV z k f=isV x k f:=by unfold Go.Proofs.YtohojolgolinoaaGreatDoor.isV;rw[h.knd a hf]
theorem Wid.vals (h:Wid x z) (a:k<x.Xa.length):vals z k=vals x k:=by unfold Go.Proofs.YtohojolgolinoaaGreatDoor.vals;rw[h.nf a];exact filter_congr λf hf=>h.isV a (Yd.1 hf)
theorem Wid.pos (h:Wid x z) (a:k<x.Xa.length) (hf:f<=Go.Proofs.YtohojolgolinoaaGreatDoor.nf x k):Au z k f=Au x k f:=by unfold Au;rw[filter_congr λg b=>h.isV a (by have:=Yd.1 b;omega)]
theorem Wid.name (h:Wid x z) (a:k<x.Xa.length) (n:Str):Bo z k n=Bo x k n:=by
  unfold Bo;rw[h.fix a];by_cases e:n=[]
  · rw[Zc e,Zc e]
  · rw[Zb e,Zb e];have hb:=H5 (Go.Proofs.YtohojolgolinoaaGreatDoor.kd x k).Xb (λt=>t.Xj==n);have b:AD (Go.Proofs.YtohojolgolinoaaGreatDoor.kd x k) n<Go.Proofs.YtohojolgolinoaaGreatDoor.nf x k:=hb.2;rw[h.pos a om]
theorem Wid.sol (h:Wid x z) (hc:AN x=[]) (b:k<x.Xa.length) (t:SolV x k (rowV x k i W)):SolV z k (rowV z k i W):=by
  have u:rowV z k i W=rowV x k i W:=by unfold rowV;rw[h.vals b]
  unfold SolV;rw[u,h.vals b];intro d a
  suffices ∃n∈dfS x k,n.A=d.A/\n.B=d.B/\n.N<=d.N by have⟨n,o,e1,e2,C⟩:=this;have:=t n o;rw[e1,e2] at this;omega
  unfold dfS at a;rw[Yl] at a;rcases ZH.1 a with a | a
  · have⟨j,l,a⟩:=Ya.1 a;rw[Yd,h.vals b] at l;have⟨hf,D⟩:=GA l;have p:=(h.fd k _ b hf).2.2.1;have s:=h.fr b hf;have v:Bc z k ((Go.Proofs.YtohojolgolinoaaGreatDoor.vals z k).getD j 0)=Bc x k ((Go.Proofs.YtohojolgolinoaaGreatDoor.vals x k).getD j 0):=by
      rw[h.vals b];unfold Bc;have e1:(Go.Proofs.YtohojolgolinoaaGreatDoor.fd z k ((Go.Proofs.YtohojolgolinoaaGreatDoor.vals x k).getD j 0)).Of=(Go.Proofs.YtohojolgolinoaaGreatDoor.fd x k ((Go.Proofs.YtohojolgolinoaaGreatDoor.vals x k).getD j 0)).Of:=s.2.1;rw[h.knd b hf,e1,h.fix b];by_cases m:(Go.Proofs.YtohojolgolinoaaGreatDoor.fd x k ((Go.Proofs.YtohojolgolinoaaGreatDoor.vals x k).getD j 0)).Xi=4/\(Go.Proofs.YtohojolgolinoaaGreatDoor.fd x k ((Go.Proofs.YtohojolgolinoaaGreatDoor.vals x k).getD j 0)).Of≠[]
      · have⟨g,e,w,_⟩:=HU hc b hf m.1 m.2;rw[Zc m,Zc m,e,Zu,h.pos b om]
      · rw[Zb m,Zb m]
    unfold Cy at a;rw[v,h.vals b] at a;simp only[Zp,ZF,ZN] at a;rcases a with rfl | rfl
    · exact⟨⟨j,Bc x k ((Go.Proofs.YtohojolgolinoaaGreatDoor.vals x k).getD j 0),(Go.Proofs.YtohojolgolinoaaGreatDoor.fd x k ((Go.Proofs.YtohojolgolinoaaGreatDoor.vals x k).getD j 0)).Hi⟩,H4 l (by simp[Cy]),rfl,rfl,p.2⟩
    · exact⟨⟨Bc x k ((Go.Proofs.YtohojolgolinoaaGreatDoor.vals x k).getD j 0),j,-(Go.Proofs.YtohojolgolinoaaGreatDoor.fd x k ((Go.Proofs.YtohojolgolinoaaGreatDoor.vals x k).getD j 0)).Lo⟩,H4 l (by simp[Cy]),rfl,rfl,by dsimp only;omega⟩
  · have⟨j,l,a⟩:=Ya.1 a;refine⟨d,?_,rfl,rfl,Zx _⟩;unfold dfS;refine mem_append_right _ (Ya.2 ⟨j,by rw[h.rules] at l;exact l,?_⟩);unfold EF at a ⊢;rw[h.rules] at a
    cases e:x.Xc[j]? with
    | none=>rw[e] at a;cases a
    | some r=>rw[e] at a;dsimp only at a ⊢;have A:Q3 z r.Xi=Q3 x r.Xi:=h.ren.kind r.Xi;rw[A,h.name b,h.name b] at a;exact a
theorem Wid.oth (h:Wid x z) (hc:AN x=[]) (a:k<x.Xa.length) (hf:f<Go.Proofs.YtohojolgolinoaaGreatDoor.nf x k) (e:OthF x W k i f):OthF z W k i f:=by
  have⟨s,n,t,l⟩:=h.fd k f a hf;have v:=h.knd a hf;have b:=h.fr a hf;have m:(Go.Proofs.YtohojolgolinoaaGreatDoor.fd z k f).Of=(Go.Proofs.YtohojolgolinoaaGreatDoor.fd x k f).Of:=b.2.1;have o:(Go.Proofs.YtohojolgolinoaaGreatDoor.fd z k f).Up=(Go.Proofs.YtohojolgolinoaaGreatDoor.fd x k f).Up:=b.2.2.1;refine⟨λw=>?_,λA=>?_,λC=>?_,λD g u g' j a1 a2 a3 a4=>?_⟩
  · rw[n];exact e.pick om
  · rw[h.lives,m,(l om).1,(l om).2];exact e.step om
  · have:=e.share om;have:=l om;omega
  · rw[h.fix a,o] at a1;rw[h.ren.up] at a2;have d:(Go.Proofs.YtohojolgolinoaaGreatDoor.fd x k f).Xi=8:=by omega
    have⟨g0,p,E,F,H,I,K,L⟩:=EI hc a hf (.inr d);have:g0=g:=by omega
    subst this;have:p=u:=by omega
    subst this;rw[h.fix om,m] at a3;exact e.copy d _ _ _ _ a1 a2 a3 a4
theorem Wid.good (h:Wid x z) (hc:AN x=[]) (m:Good x c B W):Good z c B W:=by
  have hl:=h.len;refine⟨λk b=>?_,λk i f b hi hf j o a g e1 e2=>?_⟩
  · rw[hl] at b;have d:=m.dn k b;have⟨s,t⟩:=HW hc b;refine⟨⟨λi hi=>?_,d.key.ne⟩,d.kb,λf u hf n hu=>?_,λi hi=>h.sol hc b (d.val i hi),λi f hi hf=>?_⟩
    · rw[((h.fd k 0 b s).2.2.2 om).1];exact d.key.lo i hi
    · rw[h.nf b] at hf;rw[h.knd b hf] at n;rw[h.ren.up] at hu;have⟨e1,e2⟩:=(h.fd k f b hf).2.2.2 om;rw[e1,e2];exact d.ref f u hf n hu
    · rw[h.nf b] at hf;exact h.oth hc b hf (d.oth i f hi hf)
  · rw[hl] at b;rw[h.nf b] at hf;rw[h.knd b hf] at j;rw[h.share] at e1;have⟨o',e,v,w,p,ha,D,A⟩:=GI hc b hf j;have l:=v.symm.trans e1;simp only[Yf] at l;have:o'=o:=by omega
    subst this;have:e=a:=by omega
    subst this;have C:(Go.Proofs.YtohojolgolinoaaGreatDoor.fd z o' e).Up=(Go.Proofs.YtohojolgolinoaaGreatDoor.fd x o' e).Up:=(h.fr p ha).2.2.1;rw[h.fix p,C] at e2;exact m.sum k i f b hi hf j o' e g e1 e2
end
def CD (f:Qe):Qe:=if f.Xi=2 then ⟨f.Xj,f.Of,f.Up,f.Xi,f.Lo - 1,f.Hi+1,f.Words,f.Xf⟩ else f
def C9 (x:Qc) (i:Nat):Qc:=⟨x.Version,x.Xa.set i ⟨(kd x i).Xj,(kd x i).Lo,(kd x i).Hi,(kd x i).Xb.map CD⟩,x.Xd,x.Xc⟩
theorem Jd (hi:i<x.Xa.length) (k:Nat):kd (C9 x i) k=if k=i then ⟨(kd x i).Xj,(kd x i).Lo,(kd x i).Hi,(kd x i).Xb.map CD⟩ else kd x k:=by
  show (x.Xa.set i _).getD k default=_;rw[C1];by_cases h:k=i
  · rw[Zc ⟨h,hi⟩,Zc h]
  · rw[Zb (λe=>h e.1),Zb h];rfl
theorem VH (hi:i<x.Xa.length) (hf:f<nf x k):fd (C9 x i) k f=if k=i then CD (fd x k f) else fd x k f:=by
  unfold fd;rw[Jd hi];by_cases h:k=i
  · subst h;rw[Zc rfl,Zc rfl];show ((kd x k).Xb.map CD).getD f Ar=CD ((kd x k).Xb.getD f Ar);rw[Zg,Zg,Yc,Zd (show f<(kd x k).Xb.length from hf)];rfl
  · rw[Zb h,Zb h]
theorem P6 (hi:i<x.Xa.length) (k:Nat):nf (C9 x i) k=nf x k:=by
  unfold nf;rw[Jd hi];by_cases h:k=i
  · rw[Zc h,h];simp
  · rw[Zb h]
theorem jO (f:Qe):fkey id (CD f)=fkey id f:=by unfold CD;split<;>rfl
theorem VI (hi:i<x.Xa.length):Ren id x (C9 x i):=by
  refine⟨⟨λ_ _ h=>h,rfl⟩,?_,rfl,rfl⟩;show (x.Xa.set i _).map (kkey id)=x.Xa.map (kkey id);rw[map_set];have e:kkey id ⟨(kd x i).Xj,(kd x i).Lo,(kd x i).Hi,(kd x i).Xb.map CD⟩=kkey id (kd x i):=by show ((kd x i).Xj,((kd x i).Xb.map CD).map (fkey id))=((kd x i).Xj,(kd x i).Xb.map (fkey id));rw[map_map];congr 1;exact map_congr_left λf _=>jO f
  rw[e];refine ext_getElem? λj=>?_;rw[getElem?_set];by_cases h:i=j
  · subst h;rw[Zc rfl,Zc (sa hi),Yc,Kk hi];rfl
  · rw[Zb h]
theorem P7 (hi:i<x.Xa.length):Wid x (C9 x i):=by
  refine⟨VI hi,rfl,rfl,λk b=>?_,λk f b hf=>?_⟩
  · rw[Jd hi];by_cases h:k=i
    · rw[Zc h,h];exact⟨rfl,rfl⟩
    · rw[Zb h];exact⟨rfl,rfl⟩
  · rw[VH hi hf];by_cases h:k=i
    · rw[Zc h];unfold CD;by_cases a:(fd x k f).Xi=2
      · rw[Zc a];exact⟨rfl,rfl,⟨by dsimp only;omega,by dsimp only;omega⟩,λq=>(q a).elim⟩
      · rw[Zb a];exact⟨rfl,rfl,⟨Zx _,Zx _⟩,λ_=>⟨rfl,rfl⟩⟩
    · rw[Zb h];exact⟨rfl,rfl,⟨Zx _,Zx _⟩,λ_=>⟨rfl,rfl⟩⟩
theorem jP (x:Qc):Wid x x:=⟨⟨⟨λ_ _ h=>h,rfl⟩,rfl,rfl,rfl⟩,rfl,rfl,λ_ _=>⟨rfl,rfl⟩,λ_ _ _ _=>⟨rfl,rfl,⟨Zx _,Zx _⟩,λ_=>⟨rfl,rfl⟩⟩⟩
theorem jR {f:Qe} (h:AH f=true) (hb:(-1010<=f.Lo/\f.Lo<=1010)/\(-1010<=f.Hi/\f.Hi<=1010)):AH (CD f)=true:=by
  have⟨n,o,u,k,lo,hi,w,g⟩:=f;unfold CD;by_cases a:k=2
  · subst a;have e:∀lo hi,AH ⟨n,o,u,2,lo,hi,w,g⟩=((QX n&&((((o==[])&&(u==[]))&&decide (w=[]))&&decide (g=[])))&&Bg lo hi (-1048576) 1048576):=λlo hi=>by
      unfold AH BG A8 Av;simp
    rw[Zc rfl];rw[e,Zh] at h;rw[e,Zh];refine⟨h.1,?_⟩;have:=BS h.2;unfold Bg;simp only[Zh,Zk];dsimp only at hb;omega
  · rw[Zb a];exact h
theorem jS (o:Gx x) (hc:AN x=[]) (hb:∀k f,k<x.Xa.length->f<nf x k->(-1000<=(fd x k f).Lo/\(fd x k f).Lo<=1000)/\(-1000<=(fd x k f).Hi/\(fd x k f).Hi<=1000)) (hi:i<x.Xa.length):Gx (C9 x i)/\AN (C9 x i)=[]:=by
  have hl:(C9 x i).Xa.length=x.Xa.length:=by show (x.Xa.set i _).length=_;rw[ZK]
  have b:∀q∈(C9 x i).Xa,∃k,k<x.Xa.length/\q=kd (C9 x i) k:=λq d=>by obtain⟨k,a,rfl⟩:=mem_iff_getElem.1 d;refine⟨k,om,?_⟩;unfold kd;rw[Zg,Zd a];rfl
  have fok:∀k f,k<x.Xa.length->f<nf x k->AH (fd x k f)=true:=λk f a hf=>(Cz ((Ce hc).kind _ (Cq a))).2.2 _ (Ev hf);have p:∀k,k<x.Xa.length->BI (kd (C9 x i) k)=true:=λk a=>by
    have h0:=(Ce hc).kind _ (Cq a);rw[Jd hi];by_cases h:k=i
    · subst h;rw[Zc rfl];unfold BI at h0 ⊢;simp only[Zh,ZD] at h0 ⊢;have⟨⟨⟨a1,a2⟩,a3⟩,a4⟩:=h0;refine⟨⟨⟨a1,a2⟩,by simpa using a3⟩,λf hf=>?_⟩;obtain⟨g,l,rfl⟩:=ZR.1 hf;obtain⟨j,s,rfl⟩:=mem_iff_getElem.1 l;have e:(kd x k).Xb[j]=fd x k j:=by
        unfold fd;rw[Zg,Zd s];rfl
      rw[e];have:=hb k j a s;exact jR (fok k j a s) om
    · rw[Zb h];exact h0
  have m:CU (C9 x i)=true:=by have h0:=o.vs;unfold CU at h0 ⊢;simp only[Zh,ZD,Zk] at h0 ⊢;have⟨⟨⟨⟨⟨⟨a1,a2⟩,a3⟩,a4⟩,a5⟩,a6⟩,a7⟩:=h0;refine⟨⟨⟨⟨⟨⟨a1,by rw[hl];exact a2⟩,a3⟩,a4⟩,λq d=>?_⟩,a6⟩,a7⟩;obtain⟨k,a,rfl⟩:=b q d;exact p k a
  have n:Tiny (C9 x i):=by
    have⟨t1,t2,t3,t4,t5⟩:=o.tiny;refine⟨by rw[hl];exact t1,λq d f hf=>?_,t3,t4,t5⟩;obtain⟨k,a,rfl⟩:=b q d;rw[Jd hi] at hf;by_cases h:k=i
    · subst h;rw[Zc rfl] at hf;obtain⟨g,l,rfl⟩:=ZR.1 hf;have:=t2 _ (Cq a) g l;unfold CD;split<;>exact this
    · rw[Zb h] at hf;exact t2 _ (Cq a) f hf
  have t:∀q∈(C9 x i).Xa,q.Xb.length<=9:=λq d=>by obtain⟨k,a,rfl⟩:=b q d;have:=(o.kd a).1;rw[<-P6 hi] at this;exact this
  refine⟨⟨Sx n m t,n,m,λ{k} a=>?_,λ{k f} a hf=>?_⟩,?_⟩
  · rw[hl] at a;have:=o.kd a;rw[P6 hi,((P7 hi).kd k a).1,((P7 hi).kd k a).2];exact this
  · rw[hl] at a;rw[P6 hi] at hf;have:=hb k f a hf;rw[VH hi hf];by_cases h:k=i
    · rw[Zc h];unfold CD;split
      · dsimp only;omega
      · omega
    · rw[Zb h];omega
  · rw[(VI hi).check (Oa hc).2.2 (aY n m)];exact hc
theorem jT {l:Lz} (h:l.length<=1000):Ft l l=some true:=by
  have key:Ok (Ft l l) (λr=>r=true):=by
    unfold Ft;rw[Zb sm];refine Ok.bind (P:=λe:Unit⊕Bool=>∃a,e=.inl a) (Ok.cnt0 l.length (λ_=>True) trivial (λi hi _=>?_) λ_=>by rw[AK];exact Ok.mk ⟨_,rfl⟩) λe b=>by obtain⟨a,rfl⟩:=b;exact Ok.mk rfl
    rw[AL hi,QY hi];dsimp only[ob];rw[Zb sm];exact Ok.mk ⟨QD hi om,trivial⟩
  obtain⟨r,e,rfl⟩:=key;exact e
theorem jU {l:List Lz} {f:Lz->Lz->Option Bool} (h:l.length<=1000) (hf:∀x∈l,f x x=some true):JF l l f=some true:=by
  have key:Ok (JF l l f) (λr=>r=true):=by
    unfold JF;rw[Zb sm];refine Ok.bind (P:=λe:Unit⊕Bool=>∃a,e=.inl a) (Ok.cnt0 l.length (λ_=>True) trivial (λi hi _=>?_) λ_=>by rw[AK];exact Ok.mk ⟨_,rfl⟩) λe b=>by obtain⟨a,rfl⟩:=b;exact Ok.mk rfl
    rw[AL hi,QY hi];dsimp only[ob];rw[hf _ (Zr hi)];exact Ok.mk ⟨QD hi om,trivial⟩
  obtain⟨r,e,rfl⟩:=key;exact e
theorem jV {l:List (List Lz)} {f:List Lz->List Lz->Option Bool} (h:l.length<=1000) (hf:∀x∈l,f x x=some true):JK l l f=some true:=by
  have key:Ok (JK l l f) (λr=>r=true):=by
    unfold JK;rw[Zb sm];refine Ok.bind (P:=λe:Unit⊕Bool=>∃a,e=.inl a) (Ok.cnt0 l.length (λ_=>True) trivial (λi hi _=>?_) λ_=>by rw[AK];exact Ok.mk ⟨_,rfl⟩) λe b=>by obtain⟨a,rfl⟩:=b;exact Ok.mk rfl
    rw[AL hi,QY hi];dsimp only[ob];rw[hf _ (Zr hi)];exact Ok.mk ⟨QD hi om,trivial⟩
  obtain⟨r,e,rfl⟩:=key;exact e
theorem jW {n:Nat} {c nf:Nat->Nat} {W:Wd} (b:Sh n c nf W) (h:n<=1000) (hc:∀k,k<n->c k<=1000) (hf:∀k,k<n->nf k<=1000):JO W W=some true:=by
  unfold JO;rw[jV (f:=λx0 d=>MY x0 d) (by rw[b.len];exact h) λy hy=>?_]
  · rfl
  · obtain⟨k,g,rfl⟩:=mem_iff_getElem.1 hy;have a:k<n:=by rw[<-b.len];exact g
    have j:W[k]=g1 W k:=by unfold g1;rw[Zg,Zd g];rfl
    unfold MY;rw[j,jU (f:=λx0 d=>MX x0 d) (by rw[b.row k a];exact hc k a) λr l=>?_]
    · rfl
    · obtain⟨i,hi,rfl⟩:=mem_iff_getElem.1 l;have e:i<c k:=by rw[<-b.row k a];exact hi
      have m:(g1 W k)[i]=g2 W k i:=by unfold g2;rw[Zg,Zd hi];rfl
      unfold MX;rw[m,jT (by rw[b.fld k i a e];exact hf k a)];rfl
theorem jX {l:List Qe} (h:l.length<=1000) (hb:∀f∈l,(-1010<=f.Lo/\f.Lo<=1010)/\(-1010<=f.Hi/\f.Hi<=1010)):
    Ok (Qr (λ(a:Int×List Qe)=>((if decide (a.1<(a.2.length:Int)) then (idx a.2 a.1).bind λt93=>(if t93.Xi==(2:Int) then (idx a.2 a.1).bind λt101=>(idx a.2 a.1).bind λt105=>(setAt a.2 a.1 { t105 with Lo:=(i64.wrap (t101.Lo - (1:Int))) }).bind λb=>(idx b a.1).bind λt111=>(idx b a.1).bind λt115=>(setAt b a.1 { t115 with Hi:=(i64.wrap (t111.Hi+(1:Int))) }).bind λm=>some m else some a.2).bind λ(v:List Qe)=>some (.inl (i64.wrap (a.1+(1:Int)),v)) else some (.inr a.2)):Option ((Int×List Qe)⊕(List Qe)))) ((0:Int),l)) (λr=>r=l.map CD):=by
  refine Ok.cnt l.length (λi s=>s.length=l.length/\∀j,j<l.length->s.getD j Ar=if j<i then CD (l.getD j Ar) else l.getD j Ar) ⟨rfl,λj g=>by rw[Zb om]⟩ (λi s hi p=>?_) λs p=>?_
  · have⟨C,w⟩:=p;dsimp only;have e0:=w i hi;rw[Zb om] at e0;have A:(i:Int)<(s.length:Int):=by omega
    rw[Zc (sa A),Ai (d:=Ar) om,e0];dsimp only[ob];have hm:=hb _ (Dr (d:=Ar) hi);generalize t:l.getD i Ar=f at e0 hm ⊢;refine Ok.bind (P:=λr:List Qe=>r.length=l.length/\∀j,j<l.length->r.getD j Ar=if j<i+1 then CD (l.getD j Ar) else l.getD j Ar) (Ok.ite (λu=>?_) λu=>Ok.mk ⟨C,λj g=>?_⟩) λr D=>Ok.mk ⟨QD hi om,D⟩
    · have o:f.Xi=2:=by simpa using u
      rw[w64 (n:=f.Lo - 1) om om,Cx om];dsimp only[ob];rw[Ai (d:=Ar) (by rw[ZK];omega),C1,Zc ⟨rfl,om⟩];dsimp only[ob];rw[w64 (n:=f.Hi+1) om om,Cx (by rw[ZK];omega)];refine Ok.mk ⟨by rw[ZK,ZK];exact C,λj g=>?_⟩;rw[C1,C1,ZK];by_cases e:j=i
      · subst e;rw[Zc ⟨rfl,om⟩,Zc om,t];unfold CD;rw[Zc o]
      · rw[Zb (λq=>e q.1),Zb (λq=>e q.1),w j g];by_cases q:j<i
        · rw[Zc q,Zc om]
        · rw[Zb q,Zb om]
    · have o:¬f.Xi=2:=by simpa using u
      rw[w j g];by_cases e:j=i
      · subst e;rw[Zb om,Zc om,t];unfold CD;rw[Zb o]
      · by_cases q:j<i
        · rw[Zc q,Zc om]
        · rw[Zb q,Zb om]
  · dsimp only;rw[Zb (by rw[p.1];simp)];refine Ok.mk (ext_getElem (by rw[p.1,Yh]) λj E u=>?_);have g:j<l.length:=by have:=p.1;omega
    have:=p.2 j g;rw[Zc g,Zg,Zd E,Zg,Zd g] at this;rw[getElem_map];exact this
theorem jY {a n:Int} (ha:I64 a) (d:1<=n):Ok (Gf a n) (λr=>0<=r/\r<n):=(Oh ha).Xo λr b=>⟨b.1,b.2.1 d⟩
theorem eB (l m k:Lz) (u:Int) (hl:∀x∈l,I64 x) (hm:∀x∈m,I64 x) (d:∀x∈k,I64 x) (ha:I64 u):NJ l m k u=some true:=by
  have key:Ok (NJ l m k u) (λr=>r=true):=by
    unfold NJ;refine (bP hl hm d).bind λr s=>?_;have⟨x,old,q,b⟩:=r;dsimp only at s ⊢;refine Ok.ite (λ_=>by rw[PX];exact Ok.mk rfl) λhb=>?_;have⟨A,⟨D,K⟩,hc,⟨co,V,R,X⟩,E,g⟩:=s (sa hb);have h:Old x co old:=⟨A,hc,V,λk i d hi=>(R k i d hi).h,X⟩;have Y:=h.kinds;have o:∀k,k<x.Xa.length->cN q k<=60:=λk d=>by have:=(g.2 k om).2;have:=Ey g (k:=k) om;have:=A.kd d;omega
    refine (U7 h E g (S:=2000000) dc λk i d hi=>?_).bind λr s=>?_
    · have⟨Z,_⟩:=HW hc d;have:=((R k i d hi).2 0 Z).1;unfold g3;omega
    have⟨W,n,e⟩:=r;rcases s.1 with⟨e0,C,H,L⟩ | F
    · dsimp only at e0 C H L ⊢;subst e0;rw[Zb dc];have hO:Old x (cN q) W:=VB A hc C H dc o;have low:∀k,k<x.Xa.length->(kd x k).Lo<=cN q k/\(cN q k:Int)<=(kd x k).Hi:=λk d=>by
        have K:=L k d;have T:=(g.2 k om).2;rw[Ey g (k:=k) om] at K T;exact⟨K,T⟩
      refine (U5 hO).bind λt ht=>?_;rw[ht.2 (jM hc H low)];rw[Zb dc]
      -- the world of a schema that is as wide, or wider
      have p:∀z,Wid x z->Gx z->AN z=[]->Gk z W q=some (W,0,0):=λz hz M N=>by
        have I:=hz.len;have v:Good z (cN q) (2000000+60) W:=hz.good hc H;have wz:Sh z.Xa.length (cN q) (nf z) W:=by rw[I];exact⟨C.len,C.row,λk i d hi=>by rw[hz.nf d];exact C.fld k i d hi⟩
        have w:∀k,k<z.Xa.length->cN q k<=60:=λk d=>o k om;have O:Old z (cN q) W:=VB M N wz v dc w;have P:CL z q:=⟨by rw[I];exact g.1,λi hi=>by rw[(hz.kd i om).2];exact g.2 i hi⟩;have⟨r,e,s⟩:=U7 O (by rw[I];exact E) P (S:=2000060) dc λk i d hi=>(v.dn k d).kb i hi;rw[s.2 _ (λ_ _=>rfl) v λk d=>by rw[I] at d;rw[(hz.kd k d).1];exact L k d] at e;exact e
      rw[p x (jP x) A hc];dsimp only[ob];apply Ok.rm so;simp only[Yl];refine (jY ha om).bind λt ht=>?_;obtain⟨i,rfl⟩:=ZB ht.1;have hi:i<x.Xa.length:=by omega
      rw[AQ hi];dsimp only[ob];have h9:=(A.kd hi).1;unfold nf at h9;apply Ok.rm so;refine (jX om λf hf=>?_).bind λfs Q=>?_
      · obtain⟨j,U,rfl⟩:=mem_iff_getElem.1 hf;have e:(kd x i).Xb[j]=fd x i j:=by
          unfold fd;rw[Zg,Zd U];rfl
        have:=D i j hi U;rw[e];omega
      rw[Cx hi];dsimp only[ob];have ey:Qc.mk x.Version (x.Xa.set i { kd x i with Xb:=fs }) x.Xd x.Xc=C9 x i:=by rw[Q];rfl
      rw[ey];have⟨gy,cy⟩:=jS A hc D hi;rw[p _ (P7 hi) gy cy];have hs:=jW C om (λk d=>by have:=o k d;omega) λk d=>by have:=h.nf d;omega
      dsimp only[ob];rw[hs];show Ok (Fn.bind _) _;rw[PX];exact Ok.mk rfl
    · dsimp only at F ⊢;subst F;rw[Zc dc,PX];exact Ok.mk rfl
  obtain⟨r,s,rfl⟩:=key;exact s

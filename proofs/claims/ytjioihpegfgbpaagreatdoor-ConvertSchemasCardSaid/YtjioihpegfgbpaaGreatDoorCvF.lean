/- Renaming a field. No condition. -/
import Derived.Test.YtjioihpegfgbpaaGreatDoorCvE
set_option linter.all false
open List
namespace Go.Proofs.YtjioihpegfgbpaaGreatDoor
open Go.Sim
theorem Qp3 {α:Type} (l:List α) (G:Nat->α->α):(l.mapIdx λi a=>if i<0 then G i a else a)=l:=ext_getElem (by simp) λi h1 h2=>by simp
theorem Qo2 {α β:Type} (l:List α) (g:α->β):(l.mapIdx λ_=>g)=l.map g:=ext_getElem (by simp) λi h1 h2=>by simp
theorem Ql3 {α:Type} (l:List α) (G:Nat->α->α) {body:Int×List α->Option ((Int×List α)⊕List α)}
    (hs:∀i (h:i<l.length) (m:List α),m.length=l.length->m[i]?=some l[i]->body ((i:Int),m)=some (.inl (((i+1:Nat):Int),m.set i (G i l[i]))))
    (he:∀m,body ((l.length:Int),m)=some (.inr m)):Qz body ((0:Int),l)=some (l.mapIdx G):=by
  have h:=QgD (body:=body) l.length (λn=>((n:Int),l.mapIdx λi a=>if i<n then G i a else a)) (l.mapIdx G) (λn hn=>?_) ?_
  · rw[Qp3] at h;exact h
  · rw[hs n hn _ (by simp) (by simp[Zf hn])];refine Zu some (Zu Sum.inl (Zu (Prod.mk _) (ext_getElem (by simp) λi h1 h2=>?_)));simp only[getElem_set,getElem_mapIdx];by_cases e:n=i
    · subst e;simp
    · rw[Zb e];by_cases c:i<n
      · rw[Ze c,Ze (by omega)]
      · rw[Zb c,Zb (by omega)]
  · rw[he];refine Zu some (Zu Sum.inr (ext_getElem (by simp) λi h1 h2=>?_));simp only[getElem_mapIdx];rw[Ze (by simpa using h2)]
theorem Qvn {m:List Qh} {i:Nat} {q:Qh} (hq:m[i]?=some q) (G:Nat->Qd->Qd) {body:Int×List Qh->Option ((Int×List Qh)⊕List Qh)}
    (hs:∀j (h:j<q.Xb.length) (fs:List Qd),fs.length=q.Xb.length->fs[j]?=some q.Xb[j]->body ((j:Int),m.set i { q with Xb:=fs })=some (.inl (((j+1:Nat):Int),m.set i { q with Xb:=fs.set j (G j q.Xb[j]) })))
    (he:∀m',body ((q.Xb.length:Int),m')=some (.inr m')):Qz body ((0:Int),m)=some (m.set i { q with Xb:=q.Xb.mapIdx G }):=by
  have h:=QgD (body:=body) q.Xb.length (λn=>((n:Int),m.set i { q with Xb:=q.Xb.mapIdx λi a=>if i<n then G i a else a })) (m.set i { q with Xb:=q.Xb.mapIdx G }) (λn hn=>?_) ?_
  · obtain⟨hi,e⟩:=Zc.1 hq;have e0:m.set i q=m:=by rw[<-e];exact set_getElem_self hi
    rw[Qp3,show m.set i { q with Xb:=q.Xb }=m from e0] at h;exact h
  · rw[hs n hn _ (by simp) (by simp[Zf hn])];refine Zu some (Zu Sum.inl (Zu (Prod.mk _) (Zu (m.set i) (Zu (λfs=>({ q with Xb:=fs }:Qh)) (ext_getElem (by simp) λi h1 h2=>?_)))));simp only[getElem_set,getElem_mapIdx];by_cases e:n=i
    · subst e;simp
    · rw[Zb e];by_cases c:i<n
      · rw[Ze c,Ze (by omega)]
      · rw[Zb c,Zb (by omega)]
  · rw[he];refine Zu some (Zu Sum.inr (Zu (m.set i) (Zu (λfs=>({ q with Xb:=fs }:Qh)) (ext_getElem (by simp) λi h1 h2=>?_))));simp only[getElem_mapIdx];rw[Ze (by simpa using h2)]
def Ql4 (o:Qt) (s:Str):Str:=if (s==o.Field)=true then o.Xi else s
theorem Qp4 (o:Qt) (s:Str):Qdr s o.Field o.Xi=some (Ql4 o s):=by unfold Qdr Ql4;cases s==o.Field<;>rfl
def renF (x:Qa) (o:Qt) (k:Int) (i j:Nat) (g:Qd):Qd:=
  { g with Of:=if ((((i:Int)==k)&&(g.Xh==4))||(((g.Xh==7)||(g.Xh==8))&&(upIx x (i:Int) (j:Int)==k)))=true then Ql4 o g.Of else g.Of
           Up:=if (((i:Int)==k)&&((g.Xh==7)||(g.Xh==8)))=true then Ql4 o g.Up else g.Up }
def renQ (x:Qa) (o:Qt) (k:Int) (i:Nat) (q:Qh):Qh:={ q with Xb:=q.Xb.mapIdx (renF x o k i) }
def renR (o:Qt) (nm:Str) (r:Qm):Qm:=if (r.Xh==nm)=true then { r with A:=Ql4 o r.A,B:=Ql4 o r.B } else r
theorem Qo3 (n:Int):((n==4)=true/\(n==7)=false/\(n==8)=false)\/((n==4)=false/\(n==7)=true/\(n==8)=false)\/((n==4)=false/\(n==7)=false/\(n==8)=true)\/((n==4)=false/\(n==7)=false/\(n==8)=false):=by
  by_cases h4:n=4
  · subst h4;exact .inl ⟨rfl,rfl,rfl⟩
  by_cases h7:n=7
  · subst h7;exact .inr (.inl ⟨rfl,rfl,rfl⟩)
  by_cases h8:n=8
  · subst h8;exact .inr (.inr (.inl ⟨rfl,rfl,rfl⟩))
  exact .inr (.inr (.inr ⟨by simpa using h4,by simpa using h7,by simpa using h8⟩))
section
variable {α:Type} {l:List α} {i:Nat}
theorem Qdz {v:α} (h:l[i]?=some v):idx l (i:Int)=some v:=by rw[Qj2];exact h
theorem Qgb {v:α} (h:l[i]?=some v) (w:α):setAt l (i:Int) w=some (l.set i w):=Qww (Zc.1 h).1 w
theorem QsE {v:α} (h:l[i]?=some v) (w:α):(l.set i w)[i]?=some w:=getElem?_set_self (Zc.1 h).1
theorem Qfq {v:α} (h:l[i]?=some v) (w:α):idx (l.set i w) (i:Int)=some w:=Qdz (QsE h w)
theorem QdM {v:α} (h:l[i]?=some v) (w u:α):setAt (l.set i w) (i:Int) u=some (l.set i u):=by rw[Qgb (QsE h w),List.set_set]
end
theorem tt:(true==true)=true:=rfl
theorem tf:(true==false)=false:=rfl
theorem ft:(false==true)=false:=rfl
theorem ff:(false==false)=true:=rfl
theorem QtJ {x:Qa} {o:Qt} {k j:Int} {q:Qh} {f:Qd} (hm:Mid 500 x) (hq:idx x.Xa k=some q) (hf:idx q.Xb j=some f):
    ∃r g,idx (x.Xa.mapIdx (renQ x o k)) k=some r/\idx r.Xb j=some g/\QfF x o k j=some ⟨x.Version,(x.Xa.mapIdx (renQ x o k)).set k.toNat { r with Xb:=r.Xb.set j.toNat { g with Xi:=o.Xi } },x.Xd,x.Xc.map (renR o q.Xi)⟩:=by
  have hfew:Few x:=(hm.short (by decide)).few;obtain⟨k0,k1,_⟩:=Qfk hq;obtain⟨j0,j1,_⟩:=Qfk hf;obtain⟨n,rfl⟩:=ZK k0;obtain⟨m,rfl⟩:=ZK j0;rw[Qj2] at hq hf;have hr:(x.Xa.mapIdx (renQ x o n))[n]?=some (renQ x o n n q):=by rw[getElem?_mapIdx,hq];rfl
  have hg:(renQ x o n n q).Xb[m]?=some (renF x o n n m f):=by show (q.Xb.mapIdx _)[m]?=_;rw[getElem?_mapIdx,hf];rfl
  refine⟨_,_,Qdz hr,Qdz hg,?_⟩;unfold QfF;rw[hm.fields (by decide)];simp only[Za];rw[Ql3 x.Xa (renQ x o n) (λi h w hwl hw=>?_) (λw=>by exact Zb (by simp))]
  · simp only[Za];rw[Ql3 x.Xc (λ_=>renR o q.Xi) (λi h w hwl hw=>?_) (λw=>by exact Zb (by simp))]
    · simp only[Za];rw[Qdz hr];simp only[Za];rw[Qdz hg];simp only[Za];rw[Qgb hg];simp only[Za];rw[Qgb hr];simp only[Za];rw[Qo2];rfl
    · have hl:=hm.rules;rw[Ze (by simpa using h),Qaa h];simp only[Za];rw[Qdz hq];simp only[Za,Qp4,Qdz hw,Qgb hw,Qfq hw,QdM hw];rw[QT h (by omega)];unfold renR
      cases x.Xc[i].Xh==q.Xi with
      | true=>rfl
      | false=>simp only[ZP,if_false,Za];obtain⟨hi,e⟩:=Zc.1 hw;rw[<-e,set_getElem_self hi]
  · have hl:=hm.kinds.1;have hfl:=(hm.kinds.2 _ (Zn h)).1;rw[Ze (by simpa using h),Qvn hw (renF x o n i) (λj hj fs hfs hfj=>?_) (λw'=>?_)]
    · simp only[Za];rw[QT h (by omega)];rfl
    · simp only[Qaa h,Za];rw[Ze (by simpa using hj)];simp only[Qaa hj,Za,Qp4,QhU hfew,Qdz hfj,Qgb hfj,Qfq hfj,QdM hfj,Qfq hw,QdM hw];rw[QT hj (by omega)];have hself:fs.set j x.Xa[i].Xb[j]=fs:=by obtain⟨hi,e⟩:=Zc.1 hfj;rw[<-e];exact set_getElem_self hi
      unfold renF
      rcases Qo3 x.Xa[i].Xb[j].Xh with⟨h4,h7,h8⟩ | ⟨h4,h7,h8⟩ | ⟨h4,h7,h8⟩ | ⟨h4,h7,h8⟩<;>cases hI:((i:Int)==(n:Int))<;>cases hU:(upIx x (i:Int) (j:Int)==(n:Int))<;>
        simp only[h4,h7,h8,hU,tt,tf,ft,ff,Yl,Bool.and_false,Bool.true_and,Bool.false_and,Bool.or_true,Bool.or_false,Bool.true_or,Bool.false_or,Qrt,QpR,Za,if_true,if_false,ZP,Qdz hfj,Qgb hfj,Qfq hfj,QdM hfj,Qfq hw,QdM hw]
      all_goals exact Zu some (Zu Sum.inl (Zu (Prod.mk _) (Zu (w.set i) (Zu (λl=>(⟨_,_,_,l⟩:Qh)) hself.symm))))
    · simp only[Qaa h,Za];exact Zb (by simp)
theorem Qvo {v:Int} {x:Qa} {o:Qt} {k j:Int} {q r:Qh} {g:Qd} (hm:Mid 500 x) (hq:idx x.Xa k=some q) (hr:idx (x.Xa.mapIdx (renQ x o k)) k=some r) (hg:idx r.Xb j=some g):
    Qb8 ⟨v,x.Xa,x.Xd,x.Xc⟩ (cvO o) ⟨k,j,-1⟩=some ⟨v,(x.Xa.mapIdx (renQ x o k)).set k.toNat { r with Xb:=r.Xb.set j.toNat { g with Xi:=o.Xi } },x.Xd,x.Xc.map (renR o q.Xi)⟩:=by
  have hfew:Few x:=(hm.short (by decide)).few;have hup:∀i j,Qdh ⟨v,x.Xa,x.Xd,x.Xc⟩ i j=some (upIx x i j):=λi j=>(Qhh (x:=⟨v,x.Xa,x.Xd,x.Xc⟩) hfew).trans rfl;have hturn:∀s,Qfy s (cvO o)=Ql4 o s:=λs=>rfl;unfold Qb8;rw[(show Mid 500 ⟨v,x.Xa,x.Xd,x.Xc⟩ from ⟨hm.kinds,hm.lives,hm.rules⟩).copied (by decide)];simp only[Za];rw[hq];simp only[Za];rw[Ql3 x.Xa (renQ x o k) (λi h w hwl hw=>?_) (λw=>by exact Zb (by simp))]
  · simp only[Za];rw[Ql3 x.Xc (λ_=>renR o q.Xi) (λi h w hwl hw=>?_) (λw=>by exact Zb (by simp))]
    · simp only[Za];rw[hr];simp only[Za];rw[hg];simp only[Za];rw[Qba hg];simp only[Za];rw[Qba hr];simp only[Za];rw[Qo2];rfl
    · have hl:=hm.rules;rw[Ze (by simpa using h)];simp only[Za,hturn,Qdz hw,Qgb hw,Qfq hw,QdM hw];rw[QT h (by omega)];unfold renR
      cases x.Xc[i].Xh==q.Xi with
      | true=>rfl
      | false=>simp only[ZP,if_false,Za];obtain⟨hi,e⟩:=Zc.1 hw;rw[<-e,set_getElem_self hi]
  · have hl:=hm.kinds.1;have hfl:=(hm.kinds.2 _ (Zn h)).1;rw[Ze (by simpa using h)];simp only[Qdz hw,Za];rw[Qvn hw (renF x o k i) (λj hj fs hfs hfj=>?_) (λw'=>?_)]
    · simp only[Za];rw[QT h (by omega)];rfl
    · rw[Ze (by simpa using hj)];have hself:fs.set j x.Xa[i].Xb[j]=fs:=by obtain⟨hi,e⟩:=Zc.1 hfj;rw[<-e];exact set_getElem_self hi
      simp only[Za,hturn,hup,Qdz hfj,Qgb hfj,Qfq hfj,QdM hfj,Qfq hw,QdM hw];rw[QT hj (by omega)];unfold renF
      rcases Qo3 x.Xa[i].Xb[j].Xh with⟨h4,h7,h8⟩ | ⟨h4,h7,h8⟩ | ⟨h4,h7,h8⟩ | ⟨h4,h7,h8⟩<;>cases hI:((i:Int)==k)<;>cases hU:(upIx x (i:Int) (j:Int)==k)<;>
        simp only[h4,h7,h8,hU,bne,tt,tf,ft,ff,Bool.not_true,Bool.not_false,Yl,Bool.and_false,Bool.true_and,Bool.false_and,Bool.or_true,Bool.or_false,Bool.true_or,Bool.false_or,Qrt,QpR,Za,if_true,if_false,ZP,Qdz hfj,Qgb hfj,Qfq hfj,QdM hfj,Qfq hw,QdM hw]
      all_goals exact Zu some (Zu Sum.inl (Zu (Prod.mk _) (Zu (w.set i) (Zu (λl=>(⟨_,_,_,l⟩:Qh)) hself.symm))))
    · exact Zb (by simp)
theorem gives2 {x:Qa} {o:Qt} {k j:Int} {q:Qh} {f:Qd} (hm:Mid 500 x) (h:o.Op=2) (hq:idx x.Xa k=some q) (hf:idx q.Xb j=some f) (hW:QaC x o=some (k,j,0)) (hO:Qaw x o k j=some 0):QkY x o ⟨k,j,-1⟩ Qb8:=by
  obtain⟨r,g,hr,hg,hN⟩:=QtJ (o:=o) hm hq hf;have hK:∀q∈x.Xa.mapIdx (renQ x o k),Qnq 500 q:=λq hq=>by obtain⟨i,hi,rfl⟩:=mem_mapIdx.1 hq;have hk:=hm.kinds.2 _ (Zn hi);refine⟨by show (mapIdx _ _).length<=_;rw[length_mapIdx];exact hk.1,λf hf=>?_⟩;obtain⟨j,hj,rfl⟩:=mem_mapIdx.1 (show f∈mapIdx _ _ from hf);have:=hk.2 x.Xa[i].Xb[j] (Zn hj);exact⟨this.1,this.2⟩
  have hrm:=hK r (Qfk hr).2.2;refine⟨_,_,λv=>Qvo hm hq hr hg,?_,λv=>⟨⟨by rw[ZS,length_mapIdx];exact Nat.le_succ_of_le hm.kinds.1,Qe4 (λq hq=>(hK q hq).mono (by decide)) ⟨by show (set _ _ _).length<=_;rw[ZS];exact Nat.le_succ_of_le hrm.1,Qe4 (λf hf=>(hrm.2 f hf).mono (by decide)) ((hrm.2 g (Qfk hg).2.2).mono (b:=501) (by decide))⟩⟩,⟨Nat.le_succ_of_le hm.lives.1,λl hl=>⟨Nat.le_succ_of_le (hm.lives.2 l hl).1,Nat.le_succ_of_le (hm.lives.2 l hl).2⟩⟩,by rw[ZY];exact Nat.le_succ_of_le hm.rules⟩⟩;unfold Qbf;rw[hW];simp only[Za];rw[Zb (by simp),hO];simp only[Za];rw[Zb (by simp),hm.fields (by decide)];simp only[Za];rw[Zb (by rw[h];decide),Zb (by rw[h];decide),Ze (by rw[h];rfl),hN];rfl

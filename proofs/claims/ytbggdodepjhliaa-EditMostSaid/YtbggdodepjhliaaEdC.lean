/- Edit: levels as a whole. No condition. -/
import Derived.Test.YtbggdodepjhliaaEdB
namespace Go.Proofs.Ytbggdodepjhliaa
open Go.Sim

theorem QgN (P:Nat→Prop):∀n,P n→∃m,m≤n∧P m∧∀i,i<m→¬P i:=fun n=>by
  induction n using Nat.strongRecOn with
  | _ n ih=>
    intro h
    by_cases he:∃i,i<n∧P i
    · obtain⟨i,h1,h2⟩:=he
      obtain⟨m,g1,g2,g3⟩:=ih i h1 h2
      exact⟨m,by omega,g2,g3⟩
    · exact⟨n,Nat.le_refl _,h,fun i hi hp=>he ⟨i,hi,hp⟩⟩
theorem QA {g g':Nat→Int}:∀{n:Nat},(∀i,i<n→g i=g' i)→psum g n=psum g' n
  | 0,_=>rfl
  | n+1,h=>by
    show psum g n+g n=psum g' n+g' n
    rw[QA fun i hi=>h i (by omega),h n (by omega)]

def zarc:Qc:=Qc.mk (0:Int) (0:Int) (0:Int) (0:Int) (0:Int)
/-- Back along the entries. -/
def back (m:List (Int×Qc)) (v:Int):Nat→Int
  | 0=>v
  | i+1=>((mget m (back m v i)).getD zarc).from'
theorem Qbh (m:List (Int×Qc)) (v:Int) (i:Nat):∀j,back m v (i+j)=back m (back m v i) j
  | 0=>rfl
  | j+1=>by
    show ((mget m (back m v (i+j))).getD zarc).from'=((mget m (back m (back m v i) j)).getD zarc).from'
    rw[Qbh m v i j]
theorem QfO {x:Qg} {k t:Int} {L:List Int} {m:List (Int×Qc)} {τ ρ:Int→Int} (h:LI x k t L m τ ρ) {v:Int} (hv:ρ v=k):∀i:Nat,(i:Int)≤k→k - i≤ρ (back m v i)
  | 0,_=>by show k - 0≤ρ v;omega
  | i+1,hi=>by
    have ih:=QfO h hv i (by omega)
    obtain⟨a,ha⟩:=h.has (back m v i) (by omega)
    have:=(h.ent _ _ ha).2.2.2.2.2.2
    show k - ((i+1:Nat):Int)≤ρ ((mget m (back m v i)).getD zarc).from'
    rw[ha,Option.getD_some]
    omega
/-- A cycle of negative cost. -/
def QdP (x:Qg) (m:Mp Qc) (v:Int):Prop:=∃w c p,Qcu x m w c p∧w 0=v∧w p=v∧psum (fun i=>(c i).cost) p≤-1

theorem QeK {x:Qg} (hx:Qac x) {k t:Int} {L:List Int} {m:List (Int×Qc)} {τ ρ:Int→Int} (h:LI x k t L m τ ρ) {v:Int} (he:∀i,∃a,mget m (back m v i)=some a):
    ∀i:Nat,psum (fun i=>((mget m (back m v i)).getD zarc).cost) i≤lv L v - lv L (back m v i)∧(psum (fun i=>((mget m (back m v i)).getD zarc).cost) i<lv L v - lv L (back m v i)∨τ (back m v i)+i≤τ v)
  | 0=>by
    refine⟨?_,.inr ?_⟩
    · show (0:Int)≤lv L v - lv L v;omega
    · show τ v+((0:Nat):Int)≤τ v;omega
  | i+1=>by
    obtain⟨i1,i2⟩:=QeK hx h he i
    obtain⟨a,ha⟩:=he i
    obtain⟨g1,g2,g3,g4,g5,g6,g7⟩:=h.ent _ _ ha
    have hne:=(Qav hx g1).2.2.2.2.2.1
    have e1:back m v (i+1)=a.from':=by show ((mget m (back m v i)).getD zarc).from'=_;rw[ha];rfl
    have e2:psum (fun i=>((mget m (back m v i)).getD zarc).cost) (i+1)=psum (fun i=>((mget m (back m v i)).getD zarc).cost) i+a.cost:=by
      show _+((mget m (back m v i)).getD zarc).cost=_
      rw[ha];rfl
    rw[e1,e2]
    refine⟨by omega,?_⟩
    by_cases hs:τ (back m v i)<τ a.from'
    · have:=g6 hs;exact .inl (by omega)
    · rcases i2 with i2 | i2
      · exact .inl (by omega)
      · have hd:τ (back m v i)≠τ a.from':=fun e=>hne ((h.one _ _ e g4).symm.trans g2.symm)
        exact .inr (by push_cast;omega)

theorem Qhw {x:Qg} (hx:Qac x) {t:Int} {L:List Int} {m:List (Int×Qc)} {τ ρ:Int→Int} (h:LI x x.n t L m τ ρ) {v:Int} (h0:0≤v) (h1:v<x.n) (hv:ρ v=x.n):
    QdP x (some m) (back m v x.n.toNat):=by
  have hn:=hx.n0
  have hb:=QfO h hv
  have hent:∀i:Nat,(i:Int)≤x.n→∃a,mget m (back m v i)=some a:=fun i hi=>h.has _ (by have:=hb i hi;omega)
  have hin:∀i:Nat,(i:Int)≤x.n→0≤back m v i∧back m v i<x.n:=fun i hi=>by
    cases i with
    | zero=>exact⟨h0,h1⟩
    | succ i=>
      obtain⟨a,ha⟩:=hent i (by omega)
      have e1:back m v (i+1)=a.from':=by show ((mget m (back m v i)).getD zarc).from'=_;rw[ha];rfl
      obtain⟨_,q1,q2,_⟩:=Qav hx (h.ent _ _ ha).1
      rw[e1];exact⟨q1,q2⟩
  obtain⟨a,b,hab,hbn,he⟩:=QgM x.n.toNat (fun i=>(back m v i).toNat) (fun i hi=>by have:=hin i (by omega);omega)
  have he:back m v a=back m v b:=by have:=hin a (by omega);have:=hin b (by omega);omega
  -- from a on the way repeats
  have hrep:∀j,back m v (b+j)=back m v (a+j):=fun j=>by rw[Qbh,Qbh,he]
  have hall:∀j,∃i,i≤x.n.toNat∧back m v (a+j)=back m v i:=fun j=>by
    induction j using Nat.strongRecOn with
    | _ j ih=>
      by_cases hj:a+j≤b
      · exact⟨a+j,by omega,rfl⟩
      · obtain⟨i,hi1,hi2⟩:=ih (j - (b - a)) (by omega)
        refine⟨i,hi1,?_⟩
        rw[←hi2,←hrep (j - (b - a))]
        congr 1;omega
  let n:=x.n.toNat
  let u:=back m v n
  have hu:∀i,back m u i=back m v (n+i):=fun i=>(Qbh m v n i).symm
  have hue:∀i,∃a,mget m (back m u i)=some a:=fun i=>by
    rw[hu]
    obtain⟨q,q1,q2⟩:=hall (n - a+i)
    have:a+(n - a+i)=n+i:=by omega
    rw[this] at q2
    rw[q2]
    exact hent q (by omega)
  have hper:back m u (b - a)=u:=by
    rw[hu]
    have:=hrep (n - a)
    have e1:b+(n - a)=n+(b - a):=by omega
    have e2:a+(n - a)=n:=by omega
    rw[e1,e2] at this
    exact this
  obtain⟨p,_,⟨hp1,hp2⟩,hp3⟩:=QgN (fun p=>1≤p∧back m u p=u) (b - a) ⟨by omega,hper⟩
  have hp3:∀i,0<i→i<p→back m u i≠u:=fun i i0 ip e=>hp3 i ip ⟨i0,e⟩
  have hdis:∀i j,i<j→j<p→back m u i≠back m u j:=fun i j hij hjp e=>by
    refine hp3 (i+(p - j)) (by omega) (by omega) ?_
    rw[Qbh,e,←Qbh]
    have:j+(p - j)=p:=by omega
    rw[this,hp2]
  let c:=fun i=>(mget m (back m u i)).getD zarc
  have hc:∀i,mget m (back m u i)=some (c i):=fun i=>by
    obtain⟨a,ha⟩:=hue i
    show _=some ((mget m (back m u i)).getD zarc)
    rw[ha];rfl
  have hce:=fun i=>h.ent _ _ (hc i)
  have hsum:psum (fun i=>(c i).cost) p≤-1:=by
    obtain⟨s1,s2⟩:=QeK hx h hue p
    rw[hp2] at s1 s2
    show psum (fun i=>((mget m (back m u i)).getD zarc).cost) p≤-1
    omega
  refine⟨back m u,c,p,⟨hp1,fun i _=>hc i,fun i _=>(Qav hx (hce i).1).1,fun i _=>(hce i).2.1,fun i _=>rfl,fun i _=>(hce i).2.2.1,fun i i0 ip=>by rw[hp2];exact hp3 i i0 ip,fun i j hij hjp ee=>?_⟩,rfl,hp2,hsum⟩
  have fi:(c i).from'=back m u (i+1):=rfl
  have fj:(c j).from'=back m u (j+1):=rfl
  have ti:=(hce i).2.1
  have tj:=(hce j).2.1
  obtain⟨e,hei,oi⟩:=(Qav hx (hce i).1).1.ex
  obtain⟨e',hej,oj⟩:=(Qav hx (hce j).1).1.ex
  rw[ee,hej] at hei
  obtain rfl:=Option.some.inj hei
  have hd:=hdis i j hij hjp
  rcases oi with⟨_,a1,a2,a3⟩ | ⟨_,a1,a2,a3⟩<;>rcases oj with⟨_,b1,b2,b3⟩ | ⟨_,b1,b2,b3⟩
  · exact hd (by rw[←ti,←tj,a2,b2])
  · have q1:back m u (i+1)=back m u j:=by rw[←fi,←tj,a1,b2]
    have q2:back m u i=back m u (j+1):=by rw[←ti,←fj,a2,b1]
    have hj:j=i+1:=by
      by_cases hq:i+1<j
      · exact absurd q1 (hdis (i+1) j hq hjp)
      · omega
    have hjp':j+1=p:=by
      by_cases hq:j+1<p
      · exact absurd q2 (hdis i (j+1) (by omega) hq)
      · omega
    have hi0:i=0:=by
      by_cases hq:0<i
      · rw[hjp',hp2] at q2;exact absurd q2 (hp3 i hq (by omega))
      · omega
    subst hi0
    have hp:p=2:=by omega
    subst hp;subst hj
    have:psum (fun i=>(c i).cost) 2=(c 0).cost+(c 1).cost:=by simp[psum]
    rw[this,a3] at hsum
    rw[b3] at hsum
    omega
  · have q1:back m u (i+1)=back m u j:=by rw[←fi,←tj,a1,b2]
    have q2:back m u i=back m u (j+1):=by rw[←ti,←fj,a2,b1]
    have hj:j=i+1:=by
      by_cases hq:i+1<j
      · exact absurd q1 (hdis (i+1) j hq hjp)
      · omega
    have hjp':j+1=p:=by
      by_cases hq:j+1<p
      · exact absurd q2 (hdis i (j+1) (by omega) hq)
      · omega
    have hi0:i=0:=by
      by_cases hq:0<i
      · rw[hjp',hp2] at q2;exact absurd q2 (hp3 i hq (by omega))
      · omega
    subst hi0
    have hp:p=2:=by omega
    subst hp;subst hj
    have:psum (fun i=>(c i).cost) 2=(c 0).cost+(c 1).cost:=by simp[psum]
    rw[this,a3] at hsum
    rw[b3] at hsum
    omega
  · exact hd (by rw[←ti,←tj,a2,b2])

/-- Levels that hold for all arcs. -/
def Qec (x:Qg) (L:List Int):Prop:=
  (L.length:Int)=x.n∧(∀v,0≤v→v<x.n→-100000000≤lv L v∧lv L v≤0)∧∀a∈x.arcs,1≤room x a→lv L a.to≤lv L a.from'+a.cost

theorem QgO {x:Qg} (hx:Qac x):Ok (QaD x) (fun r=>(r.2.1=none∧Qec x r.1)∨(∃m,r.2.1=some m∧QdP x (some m) r.2.2)):=by
  have hn0:=hx.n0;have hn1:=hx.n1;have hal:=hx.alen
  unfold QaD
  refine Ok.mk' hn0 (by omega) ?_
  refine Ok.bind (P:=fun r=>(r.2.1=none∧Qec x r.2.2)∨(∃m,r.2.1=some m∧QdP x (some m) r.1)) (Ok.loop (fun g s=>∃k:Nat,s.1=k∧k+g=x.n.toNat∧∃t m τ ρ,s.2.2=some m∧LI x k t s.2.1 m τ ρ∧(∀v,ρ v<k)∧t≤512 * k) x.n.toNat ⟨0,rfl,by omega,0,[],fun _=>0,fun _=>-1,rfl,⟨by simp;omega,fun v h0 h1=>?_,Int.le_refl _,fun v a h=>by simp[mget] at h,fun v h=>absurd h (by decide),fun v w _ h=>absurd h (by decide),fun v=>Int.le_refl _,fun v=>by decide,fun a _ _ h=>absurd h (by decide)⟩,fun v=>show (-1:Int)<0 by decide,by decide⟩ fun g s hs=>?_) fun r hr=>Ok.mk hr
  · have:lv (List.replicate x.n.toNat 0) v=0:=by
      unfold lv
      rw[List.getElem?_replicate]
      split<;>rfl
    dsimp only
    rw[this];exact⟨by omega,by omega⟩
  · obtain⟨k,h1,h2,t,m,τ,ρ,h3,h4,h5,h6⟩:=hs
    obtain⟨sk,L,mm⟩:=s
    dsimp only at h1 h3 h4 ⊢
    subst h1;subst h3
    refine (Qhv hx h4 h5 (by omega)).bind fun r hr=>?_
    obtain⟨t',m',τ',ρ',g1,g2,g3,g4,g5,g6,g7⟩:=hr
    obtain⟨last,L',mm'⟩:=r
    dsimp only at g1 g2 g3 g5 g6 g7 ⊢
    subst g1
    refine Ok.ite (fun hl=>?_) (fun hl=>?_)
    · have hl:last<0:=of_decide_eq_true hl
      refine Ok.mk (.inl ⟨rfl,g2.len,fun v v0 v1=>?_,fun a ha hr=>?_⟩)
      · have:=g2.bd v v0 v1
        dsimp only
        omega
      · obtain⟨j,hj,hja⟩:=List.mem_iff_getElem.1 ha
        exact g3 j a hj (by rw[List.getElem?_eq_getElem hj,hja]) hr (g6 hl _)
    · have hl:¬last<0:=of_decide_eq_false hl
      obtain⟨l1,l2⟩:=g7 (by omega)
      refine Ok.ite (fun hk=>?_) (fun hk=>?_)
      · have hk:(k:Int)<x.n:=of_decide_eq_true hk
        refine Ok.mk ⟨g - 1,by omega,k+1,?_,by omega,t',m',τ',ρ',rfl,⟨g2.len,g2.bd,g2.t0,g2.ent,g2.has,g2.one,g2.le,fun v=>?_,fun a ha hr hak=>?_⟩,fun v=>?_,by omega⟩
        · rw[w64 (by omega) (by omega)];rfl
        · have:=g2.rk v;omega
        · obtain⟨j,hj,hja⟩:=List.mem_iff_getElem.1 ha
          exact g3 j a hj (by rw[List.getElem?_eq_getElem hj,hja]) hr (by omega)
        · have:=g2.rk v;omega
      · have hk:¬(k:Int)<x.n:=of_decide_eq_false hk
        have ek:(k:Int)=x.n:=by omega
        rw[ek] at g2 l2
        refine Ok.bind (P:=fun r=>r=back m' last x.n.toNat) (Ok.loop (fun g s=>∃i:Nat,s.1=i∧i+g=x.n.toNat∧s.2=back m' last i) x.n.toNat ⟨0,rfl,by omega,rfl⟩ fun g s hs=>?_) fun r hr=>Ok.mk (.inr ⟨m',rfl,?_⟩)
        · obtain⟨i,i1,i2,i3⟩:=hs
          obtain⟨si,v⟩:=s
          dsimp only at i1 i3 ⊢
          subst i1;subst i3
          refine Ok.ite (fun hi=>?_) (fun hi=>?_)
          · have hi:(i:Int)<x.n:=of_decide_eq_true hi
            exact Ok.mk ⟨g - 1,by omega,i+1,by rw[w64 (by omega) (by omega)];rfl,by omega,rfl⟩
          · have hi:¬(i:Int)<x.n:=of_decide_eq_false hi
            have:i=x.n.toNat:=by omega
            subst this
            exact Ok.mk rfl
        · subst hr
          exact Qhw hx g2 (by omega) l1 l2

end Go.Proofs.Ytbggdodepjhliaa

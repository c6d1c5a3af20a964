/- Edit: the greatest number of records that keep their targets. No condition. -/
import Derived.Test.YtbggdodepjhliaaEdD
namespace Go.Proofs.Ytbggdodepjhliaa
open Go.Sim

theorem QbD {g h:Nat→Int}:∀{n:Nat},psum (fun i=>g i+ h i) n=psum g n+psum h n
  | 0=>rfl
  | n+1=>by
    show psum (fun i=>g i+ h i) n+(g n+ h n)=psum g n+g n+(psum h n+ h n)
    rw[QbD];omega
/-- One more at a place. -/
def up (g:Nat→Int) (j:Nat) (d:Int):Nat→Int:=fun i=>if i=j then g i+d else g i
theorem Q9 (g:Nat→Int) (j:Nat) (d:Int):up g j d j=g j+d:=if_pos rfl
theorem Qad (g:Nat→Int) {i j:Nat} (d:Int) (h:i≠j):up g j d i=g i:=if_neg h
theorem Qa9 (g:Nat→Int) (j:Nat) (d:Int):∀n,psum (up g j d) n=psum g n+if j<n then d else 0
  | 0=>by rw[if_neg (by omega)];rfl
  | n+1=>by
    show psum (up g j d) n+up g j d n=psum g n+g n+_
    rw[Qa9 g j d n]
    by_cases e:n=j
    · subst e
      rw[Q9,if_neg (by omega),if_pos (by omega)];omega
    · rw[Qad g d e]
      by_cases h:j<n
      · rw[if_pos h,if_pos (by omega)];omega
      · rw[if_neg h,if_neg (by omega)];omega
theorem Qdt (l h:Nat→Int):∀(n:Nat) (s:Int),(∀j,j<n→l j≤h j)→psum l n≤s→s≤psum h n→∃t:Nat→Int,(∀j,j<n→l j≤t j∧t j≤h j)∧psum t n=s
  | 0,s,_,h1,h2=>⟨fun _=>0,fun j hj=>absurd hj (by omega),by
    have h1:(0:Int)≤s:=h1
    have h2:s≤(0:Int):=h2
    show (0:Int)=s;omega⟩
  | n+1,s,hlh,h1,h2=>by
    have h1:psum l n+l n≤s:=h1
    have h2:s≤psum h n+ h n:=h2
    have hn:=hlh n (by omega)
    have hle:psum l n≤psum h n:=Qao fun j hj=>hlh j (by omega)
    -- the last one takes what the others cannot
    let y:Int:=max (l n) (s - psum h n)
    obtain⟨t,t1,t2⟩:=Qdt l h n (s - y) (fun j hj=>hlh j (by omega)) (by show psum l n≤s - max (l n) (s - psum h n);omega) (by show s - max (l n) (s - psum h n)≤psum h n;omega)
    refine⟨fun j=>if j=n then y else t j,fun j hj=>?_,?_⟩
    · by_cases e:j=n
      · subst e
        dsimp only
        rw[if_pos rfl]
        show l j≤max (l j) (s - psum h j)∧max (l j) (s - psum h j)≤h j
        omega
      · dsimp only
        rw[if_neg e]
        exact t1 j (by omega)
    · have:psum (fun j=>if j=n then y else t j) n=psum t n:=QA fun j hj=>if_neg (by omega)
      show psum (fun j=>if j=n then y else t j) n+(if n=n then y else t n)=s
      rw[this,if_pos rfl,t2];omega

section
variable (lo hi:Int)
def lowP (u:Int):Int:=max 0 (lo - u)
def aP (k u:Int):Int:=max (lowP lo u) (min k (hi - u))
/-- What is to be given: within the bounds. -/
structure Fits (to:Nat) (u:Nat→Int) (left:Int) (t:Nat→Int):Prop where
  bd:∀j,j<to→lowP lo (u j)≤t j∧t j≤hi - u j
  sum:psum t to=left
def valP (to:Nat) (k t:Nat→Int):Int:=psum (fun j=>min (k j) (t j)) to
def QL (to:Nat) (k u:Nat→Int) (left:Int):Int:=
  if psum (fun j=>aP lo hi (k j) (u j)) to - left>psum (fun j=>aP lo hi (k j) (u j) - lowP lo (u j)) to∨left - psum (fun j=>aP lo hi (k j) (u j)) to>psum (fun j=>hi - u j - aP lo hi (k j) (u j)) to then -1
  else psum (fun j=>min (k j) (aP lo hi (k j) (u j))) to - max 0 (psum (fun j=>aP lo hi (k j) (u j)) to - left)
variable {lo hi} {to:Nat} {k u:Nat→Int} {left:Int}

theorem QaN {t:Nat→Int} (ht:Fits lo hi to u left t):valP to k t≤QL lo hi to k u left∧
    ¬(psum (fun j=>aP lo hi (k j) (u j)) to - left>psum (fun j=>aP lo hi (k j) (u j) - lowP lo (u j)) to∨left - psum (fun j=>aP lo hi (k j) (u j)) to>psum (fun j=>hi - u j - aP lo hi (k j) (u j)) to):=by
  have h1:psum (fun j=>lowP lo (u j)) to≤psum t to:=Qao fun j hj=>(ht.bd j hj).1
  have h2:psum t to≤psum (fun j=>hi - u j) to:=Qao fun j hj=>(ht.bd j hj).2
  rw[ht.sum] at h1 h2
  have hn:¬(psum (fun j=>aP lo hi (k j) (u j)) to - left>psum (fun j=>aP lo hi (k j) (u j) - lowP lo (u j)) to∨left - psum (fun j=>aP lo hi (k j) (u j)) to>psum (fun j=>hi - u j - aP lo hi (k j) (u j)) to):=by
    rw[QaQ (g:=fun j=>aP lo hi (k j) (u j)) (h:=fun j=>lowP lo (u j)),QaQ (g:=fun j=>hi - u j) (h:=fun j=>aP lo hi (k j) (u j))]
    omega
  refine⟨?_,hn⟩
  unfold QL
  rw[if_neg hn]
  have g1:valP to k t≤psum (fun j=>min (k j) (aP lo hi (k j) (u j))) to:=Qao fun j hj=>by
    have:=ht.bd j hj
    unfold aP
    omega
  have g2:valP to k t≤psum (fun j=>min (k j) (aP lo hi (k j) (u j))+(t j - aP lo hi (k j) (u j))) to:=Qao fun j hj=>by
    have:=ht.bd j hj
    unfold aP
    omega
  rw[QbD,QaQ (g:=t),ht.sum] at g2
  omega
theorem Qa7 (hlh:lo≤hi) (hu:∀j,j<to→u j≤hi) (h:0≤QL lo hi to k u left):∃t,Fits lo hi to u left t∧valP to k t=QL lo hi to k u left:=by
  unfold QL at h ⊢
  by_cases hn:psum (fun j=>aP lo hi (k j) (u j)) to - left>psum (fun j=>aP lo hi (k j) (u j) - lowP lo (u j)) to∨left - psum (fun j=>aP lo hi (k j) (u j)) to>psum (fun j=>hi - u j - aP lo hi (k j) (u j)) to
  · rw[if_pos hn] at h;omega
  · rw[if_neg hn] at h ⊢
    have ha:∀j,j<to→lowP lo (u j)≤aP lo hi (k j) (u j)∧aP lo hi (k j) (u j)≤hi - u j:=fun j hj=>by
      have:=hu j hj
      unfold aP lowP
      omega
    rw[QaQ (g:=fun j=>aP lo hi (k j) (u j)) (h:=fun j=>lowP lo (u j)),QaQ (g:=fun j=>hi - u j) (h:=fun j=>aP lo hi (k j) (u j))] at hn
    by_cases hl:psum (fun j=>aP lo hi (k j) (u j)) to≤left
    · obtain⟨t,t1,t2⟩:=Qdt (fun j=>aP lo hi (k j) (u j)) (fun j=>hi - u j) to left (fun j hj=>(ha j hj).2) hl (by omega)
      refine⟨t,⟨fun j hj=>⟨Int.le_trans (ha j hj).1 (t1 j hj).1,(t1 j hj).2⟩,t2⟩,?_⟩
      have:valP to k t=psum (fun j=>min (k j) (aP lo hi (k j) (u j))) to:=QA fun j hj=>by
        have q1:=t1 j hj
        have q2:=ha j hj
        unfold aP at q1 q2 ⊢
        omega
      rw[this];omega
    · obtain⟨t,t1,t2⟩:=Qdt (fun j=>lowP lo (u j)) (fun j=>aP lo hi (k j) (u j)) to left (fun j hj=>(ha j hj).1) (by omega) (by omega)
      refine⟨t,⟨fun j hj=>⟨(t1 j hj).1,Int.le_trans (t1 j hj).2 (ha j hj).2⟩,t2⟩,?_⟩
      have:valP to k t=psum (fun j=>min (k j) (aP lo hi (k j) (u j))+(t j - aP lo hi (k j) (u j))) to:=QA fun j hj=>by
        have q1:=t1 j hj
        have q2:=ha j hj
        unfold aP at q1 q2 ⊢
        omega
      rw[this,QbD,QaQ (g:=t),t2];omega
theorem Qcv (hlh:lo≤hi) (hu:∀j,j<to→u j≤hi) (hk:∀j,j<to→0≤k j) {t:Nat→Int} (ht:Fits lo hi to u left t):0≤QL lo hi to k u left:=by
  have h:=(QaN (k:=k) ht).1
  have:0≤valP to k t:=Qb1 fun j hj=>by
    have:=(ht.bd j hj).1
    have:=hk j hj
    unfold lowP at *
    omega
  omega

/-- One record more takes a target: it keeps it. -/
theorem QgS (hlh:lo≤hi) (hu:∀j,j<to→u j≤hi) (hk:∀j,j<to→0≤k j) {c:Nat} (hc:c<to) (hkc:1≤k c) (huc:u c<hi) {t:Nat→Int} (ht:Fits lo hi to u left t) (hv:valP to k t=QL lo hi to k u left) (htc:1≤t c):
    QL lo hi to (up k c (-1)) (up u c 1) (left - 1)+1=QL lo hi to k u left∧0≤QL lo hi to (up k c (-1)) (up u c 1) (left - 1):=by
  have hu':∀j,j<to→up u c 1 j≤hi:=fun j hj=>by
    by_cases e:j=c
    · subst e;rw[Q9];omega
    · rw[Qad _ _ e];exact hu j hj
  have hk':∀j,j<to→0≤up k c (-1) j:=fun j hj=>by
    by_cases e:j=c
    · subst e;rw[Q9];omega
    · rw[Qad _ _ e];exact hk j hj
  have ht':Fits lo hi to (up u c 1) (left - 1) (up t c (-1)):=⟨fun j hj=>by
    have:=ht.bd j hj
    unfold lowP at *
    by_cases e:j=c
    · subst e;rw[Q9,Q9];omega
    · rw[Qad _ _ e,Qad _ _ e];omega,by rw[Qa9,if_pos hc,ht.sum];omega⟩
  have v1:valP to (up k c (-1)) (up t c (-1))=valP to k t - 1:=by
    have:psum (fun j=>min (up k c (-1) j) (up t c (-1) j)) to=psum (up (fun j=>min (k j) (t j)) c (-1)) to:=QA fun j _=>by
      by_cases e:j=c
      · subst e;rw[Q9,Q9,Q9];omega
      · rw[Qad _ _ e,Qad _ _ e,Qad _ _ e]
    unfold valP
    rw[this,Qa9,if_pos hc];omega
  have p1:=(QaN (k:=up k c (-1)) ht').1
  have p0:=Qcv hlh hu' hk' ht'
  obtain⟨s,s1,s2⟩:=Qa7 hlh hu' p0
  have hs:Fits lo hi to u left (up s c 1):=⟨fun j hj=>by
    have:=s1.bd j hj
    unfold lowP at *
    by_cases e:j=c
    · subst e;rw[Q9] at this ⊢;omega
    · rw[Qad _ _ e] at this ⊢;omega,by rw[Qa9,if_pos hc,s1.sum];omega⟩
  have v2:valP to k (up s c 1)=valP to (up k c (-1)) s+1:=by
    have:psum (fun j=>min (k j) (up s c 1 j)) to=psum (up (fun j=>min (up k c (-1) j) (s j)) c 1) to:=QA fun j _=>by
      by_cases e:j=c
      · subst e;rw[Q9,Q9,Q9];omega
      · rw[Qad _ _ e,Qad _ _ e,Qad _ _ e]
    unfold valP
    rw[this,Qa9,if_pos hc]
  have p2:=(QaN (k:=k) hs).1
  exact⟨by omega,p0⟩
/-- One record more takes a target that it did not have: those of its old target are fewer by d. -/
theorem QgT (hlh:lo≤hi) (hu:∀j,j<to→u j≤hi) {k':Nat→Int} (hk:∀j,j<to→0≤k' j) {c:Nat} (hc:c<to) (huc:u c<hi) {t:Nat→Int} (ht:Fits lo hi to u left t) (hv:valP to k t=QL lo hi to k u left) (htc:k c<t c) (hk1:∀j,j<to→k' j≤k j) (hk2:∀j,j<to→k' j<k j→t j=0∧j≠c):
    QL lo hi to k' (up u c 1) (left - 1)=QL lo hi to k u left:=by
  have hu':∀j,j<to→up u c 1 j≤hi:=fun j hj=>by
    by_cases e:j=c
    · subst e;rw[Q9];omega
    · rw[Qad _ _ e];exact hu j hj
  have kc:k' c=k c:=by
    have:=hk1 c hc
    by_cases e:k' c<k c
    · exact absurd rfl (hk2 c hc e).2
    · omega
  have k0:=hk c hc
  have ht':Fits lo hi to (up u c 1) (left - 1) (up t c (-1)):=⟨fun j hj=>by
    have:=ht.bd j hj
    unfold lowP at *
    by_cases e:j=c
    · subst e;rw[Q9,Q9];omega
    · rw[Qad _ _ e,Qad _ _ e];omega,by rw[Qa9,if_pos hc,ht.sum];omega⟩
  have v1:valP to k' (up t c (-1))=valP to k t:=QA fun j hj=>by
    have b1:=ht.bd j hj
    have b2:=hk j hj
    have b3:=hk1 j hj
    unfold lowP at b1
    by_cases e:j=c
    · subst e;rw[Q9];omega
    · rw[Qad _ _ e]
      by_cases q:k' j<k j
      · have:=(hk2 j hj q).1;omega
      · omega
  have p1:=(QaN (k:=k') ht').1
  have p0:=Qcv hlh hu' hk ht'
  obtain⟨s,s1,s2⟩:=Qa7 hlh hu' p0
  have hs:Fits lo hi to u left (up s c 1):=⟨fun j hj=>by
    have:=s1.bd j hj
    unfold lowP at *
    by_cases e:j=c
    · subst e;rw[Q9] at this ⊢;omega
    · rw[Qad _ _ e] at this ⊢;omega,by rw[Qa9,if_pos hc,s1.sum];omega⟩
  have v2:valP to k' s≤valP to k (up s c 1):=Qao fun j hj=>by
    have b3:=hk1 j hj
    by_cases e:j=c
    · subst e;rw[Q9];omega
    · rw[Qad _ _ e];omega
  have p2:=(QaN (k:=k) hs).1
  omega
end

end Go.Proofs.Ytbggdodepjhliaa

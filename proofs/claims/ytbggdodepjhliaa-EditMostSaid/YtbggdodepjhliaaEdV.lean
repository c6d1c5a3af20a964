/- Edit: the greedy list is the first of the best ones. No condition. -/
import Derived.Test.YtbggdodepjhliaaEdT
namespace Go.Proofs.Ytbggdodepjhliaa
open Go.Sim

/-- A list of targets within the bounds. -/
structure QbS (to:Nat) (lo hi:Int) (used rest m:List Int):Prop where
  len:m.length=rest.length
  mem:∀x∈m,0≤x∧x<(to:Int)
  bd:∀j,j<to→lo≤uf used j+kc m j∧uf used j+kc m j≤hi
theorem Qdk {to:Nat} {lo hi:Int} {used rest m:List Int} (h:QbS to lo hi used rest m):Fits lo hi to (uf used) rest.length (kc m):=
  ⟨fun j hj=>by
    have:=h.bd j hj
    have:=(Qae m j).1
    unfold lowP
    omega,by rw[Qcc h.mem,h.len]⟩
theorem Qg1 {to:Nat} {rest m:List Int} (hm:∀x∈m,0≤x∧x<(to:Int)):QD rest m≤valP to (kc rest) (kc m):=by
  rw[←QeC (l:=rest) hm]
  exact Qao fun j _=>by have:=Qej rest m j;omega
/-- None keeps more. -/
theorem QcX {lo hi:Int} {used rest m:List Int} (h:QbS used.length lo hi used rest m):QD rest m≤allP lo hi rest used:=
  Int.le_trans (Qg1 h.mem) (QaN (k:=kc rest) (Qdk h)).1

/-- The first place at which two lists differ: there the one is less. -/
inductive QcQ:List Int→List Int→Prop
  | now {a b:Int} {l m:List Int}:a<b→QcQ (a::l) (b::m)
  | later {a:Int} {l m:List Int}:QcQ l m→QcQ (a::l) (a::m)
theorem Qek {p:Nat→Bool}:∀{j g r:Nat},seek p j g=some r→∀i,j≤i→i<r→p i=false
  | _,0,_,h,_,_,_=>by cases h
  | j,g+1,r,h,i,h1,h2=>by
    unfold seek at h
    by_cases e:p j=true
    · rw[if_pos e] at h
      obtain rfl:=Option.some.inj h
      omega
    · rw[if_neg e] at h
      by_cases q:i=j
      · subst q;simpa using e
      · exact Qek h i (by omega) h2
theorem QhE {lo hi:Int} (hlh:lo≤hi) {c:Int} {rest used:List Int} (hu:∀j,j<used.length→uf used j≤hi) {i:Nat} (hi':i<used.length) (hlt:uf used i<hi) (hs:0≤allP lo hi rest (more used i)):(if (i:Int)=c then 1 else 0)+allP lo hi rest (more used i)≤allP lo hi (c::rest) used:=by
  have hu':∀j,j<(more used i).length→uf (more used i) j≤hi:=fun j hj=>by
    rw[Q0] at hj
    rw[Qba hi']
    by_cases e:j=i
    · subst e;rw[Q9];omega
    · rw[Qad _ _ e];exact hu j hj
  obtain⟨s,s1,s2⟩:=Qa7 hlh hu' hs
  rw[Q0] at s1 s2
  have hf:Fits lo hi used.length (uf used) ((c::rest).length:Int) (up s i 1):=⟨fun j hj=>by
    have:=s1.bd j hj
    rw[Qba hi'] at this
    unfold lowP at *
    by_cases e:j=i
    · subst e;rw[Q9] at this ⊢;omega
    · rw[Qad _ _ e] at this ⊢;omega,by rw[Qa9,if_pos hi',s1.sum];simp⟩
  have h2:=(QaN (k:=kc (c::rest)) hf).1
  have h3:psum (up (fun j=>min (kc rest j) (s j)) i (if (i:Int)=c then 1 else 0)) used.length≤valP used.length (kc (c::rest)) (up s i 1):=Qao fun j _=>by
    rw[Qap]
    have:=Qed (c=(j:Int))
    by_cases e:j=i
    · subst e
      rw[Q9,Q9]
      unfold one at *
      by_cases q:(j:Int)=c
      · rw[if_pos q,if_pos q.symm];omega
      · rw[if_neg q,if_neg (fun h=>q h.symm)];omega
    · rw[Qad _ _ e,Qad _ _ e];omega
  rw[Qa9,if_pos hi'] at h3
  have h4:valP used.length (kc rest) s=psum (fun j=>min (kc rest j) (s j)) used.length:=rfl
  have h5:allP lo hi rest (more used i)=valP used.length (kc rest) s:=by rw[s2];unfold allP;rw[Q0]
  have h6:allP lo hi (c::rest) used=QL lo hi used.length (kc (c::rest)) (uf used) ((c::rest).length:Int):=rfl
  omega
/-- None that is as good stands before it. -/
theorem Qdl {lo hi:Int} (hlh:lo≤hi):∀(rest used:List Int),(∀j,j<used.length→uf used j≤hi)→0≤allP lo hi rest used→∀m,QbS used.length lo hi used rest m→QcQ m (G lo hi rest used).1→QD rest m<allP lo hi rest used
  | [],used,_,_,m,hm,hb=>by
    have:(G lo hi [] used).1=[]:=rfl
    rw[this] at hb
    cases hb
  | c::rest,used,hu,hall,m,hm,hb=>by
    obtain⟨j0,hj0,hf0⟩:=QgW hlh hu hall
    rw[Qfl] at hb
    cases hsk:seek (fit lo hi rest c used) 0 used.length with
    | none=>
      have:=Qdh hsk j0 (by omega) (by omega)
      rw[hf0] at this;cases this
    | some j=>
      rw[hsk] at hb
      obtain⟨_,q1,q2⟩:=Qcw hsk
      have sc:∀i,i<used.length→0≤allP lo hi rest (more used i)→Qbd lo hi rest c used i=(if (i:Int)=c then 1 else 0)+allP lo hi rest (more used i):=fun i hi' h0=>by
        have ea:QL lo hi used.length (kc rest) (up (uf used) i 1) rest.length=allP lo hi rest (more used i):=by unfold allP;rw[Qba hi',Q0]
        unfold Qbd
        rw[ea,decide_eq_true h0,Bool.true_and]
        by_cases e:(i:Int)=c
        · rw[if_pos (by simpa using e),if_pos e];omega
        · rw[if_neg (by simpa using e),if_neg e];omega
      have al:∀(i:Nat) (m':List Int),QbS used.length lo hi used (c::rest) ((i:Int)::m')→i<used.length∧uf used i<hi∧QbS (more used i).length lo hi (more used i) rest m'∧0≤allP lo hi rest (more used i)∧(∀q,q<(more used i).length→uf (more used i) q≤hi):=fun i m' hm=>by
        have hi':i<used.length:=by have:=hm.mem (i:Int) (by simp);omega
        have hb':=hm.bd i hi'
        rw[Qap] at hb'
        have k0:=(Qae m' i).1
        unfold one at hb'
        rw[if_pos rfl] at hb'
        have ha:QbS (more used i).length lo hi (more used i) rest m':=⟨by have:=hm.len;simpa using this,fun x hx=>by rw[Q0];exact hm.mem x (by simp[hx]),fun q hq=>by
          rw[Q0] at hq
          have:=hm.bd q hq
          rw[Qap] at this
          rw[Qba hi']
          unfold up
          unfold one at this
          by_cases e:q=i
          · subst e;rw[if_pos rfl] at this ⊢;omega
          · rw[if_neg (by omega)] at this;rw[if_neg e];omega⟩
        have hu':∀q,q<(more used i).length→uf (more used i) q≤hi:=fun q hq=>by
          have:=ha.bd q hq
          have:=(Qae m' q).1
          omega
        exact⟨hi',by omega,ha,Qcv hlh hu' (fun q _=>(Qae rest q).1) (Qdk ha),hu'⟩
      cases hb with
      | now hlt=>
        rename_i a m'
        obtain⟨i,rfl⟩:=Int.eq_ofNat_of_zero_le (hm.mem a (by simp)).1
        obtain⟨a1,a2,a3,a4,a5⟩:=al i m' hm
        have hnf:=Qek hsk i (by omega) (by omega)
        have hle:=QhE hlh (c:=c) hu a1 a2 a4
        have hk:=QcX a3
        have hne:Qbd lo hi rest c used i≠allP lo hi (c::rest) used:=fun e=>by
          unfold fit at hnf
          rw[decide_eq_true a2,e] at hnf
          simp at hnf
        rw[sc i a1 a4] at hne
        show (if (i:Int)=c then 1 else 0)+QD rest m'<_
        omega
      | later hb=>
        rename_i m'
        obtain⟨a1,a2,a3,a4,a5⟩:=al j m' hm
        have ih:=Qdl hlh rest (more used j) a5 a4 m' a3 hb
        have hs:Qbd lo hi rest c used j=allP lo hi (c::rest) used:=by
          unfold fit at q2
          simp only[Bool.and_eq_true,beq_iff_eq] at q2
          exact q2.2
        rw[sc j a1 a4] at hs
        show (if (j:Int)=c then 1 else 0)+QD rest m'<_
        omega

end Go.Proofs.Ytbggdodepjhliaa

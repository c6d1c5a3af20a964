/- Edit: the greedy choice keeps as many as can be. No condition. -/
import Derived.Test.YtbggdodepjhliaaEdL
namespace Go.Proofs.Ytbggdodepjhliaa
open Go.Sim

def QD:List Int→List Int→Int
  | a::l,b::m=>(if b=a then 1 else 0)+QD l m
  | _,_=>0
theorem Qap (c:Int) (l:List Int) (j:Nat):kc (c::l) j=kc l j+one (c=(j:Int)):=by
  unfold kc one
  rw[List.count_cons]
  by_cases e:c=(j:Int)
  · rw[if_pos (by simpa using e),if_pos e];omega
  · rw[if_neg (by simpa using e),if_neg e];omega
theorem QeA:∀(l:List Int) (n:Nat),psum (kc l) n≤l.length
  | [],n=>by rw[Q4 (g:=kc []) fun i _=>rfl];exact Int.le_refl _
  | c::l,n=>by
    have:psum (kc (c::l)) n=psum (kc l) n+psum (fun j=>(1:Int) * one (c=(j:Int))) n:=by
      rw[←QbD]
      exact QA fun j _=>by rw[Qap];omega
    rw[this,QbQ (fun _=>1) n c]
    have ih:=QeA l n
    simp only[List.length_cons]
    split<;>omega

theorem QgW {lo hi:Int} (hlh:lo≤hi) {c:Int} {rest used:List Int} (hu:∀j,j<used.length→uf used j≤hi) (hm:0≤allP lo hi (c::rest) used):∃j,j<used.length∧fit lo hi rest c used j=true:=by
  obtain⟨t,t1,t2⟩:=Qa7 hlh hu hm
  have hk0:∀j,j<used.length→0≤kc rest j:=fun j _=>(Qae rest j).1
  have hk1:∀j,j<used.length→0≤kc (c::rest) j:=fun j _=>(Qae (c::rest) j).1
  have ht0:∀j,j<used.length→0≤t j:=fun j hj=>by have:=(t1.bd j hj).1;unfold lowP at this;omega
  have hle:∀j,kc rest j≤kc (c::rest) j:=fun j=>by rw[Qap];have:=Qed (c=(j:Int));omega
  have hleft:((c::rest).length:Int) - 1=rest.length:=by simp
  have sc:∀j,j<used.length→uf used j<hi→(j:Int)≠c→QL lo hi used.length (kc rest) (up (uf used) j 1) rest.length=allP lo hi (c::rest) used→fit lo hi rest c used j=true:=fun j _ hj hne hs=>by
    unfold fit Qbd
    have:((j:Int)==c)=false:=by simpa using hne
    rw[this,Bool.and_false,if_neg (by decide),hs,decide_eq_true hj];simp
  have mv:∀j,j<used.length→(j:Int)≠c→kc (c::rest) j<t j→(∀i,i<used.length→kc rest i<kc (c::rest) i→t i=0∧i≠j)→∃j,j<used.length∧fit lo hi rest c used j=true:=fun j hj hne hjt h2=>by
    have huj:uf used j<hi:=by have:=(t1.bd j hj).2;have:=hk1 j hj;omega
    have:=QgT hlh hu hk0 hj huj t1 t2 hjt (fun i _=>hle i) h2
    rw[hleft] at this
    exact⟨j,hj,sc j hj huj hne this⟩
  by_cases hc:0≤c∧c<used.length
  · obtain⟨cn,rfl⟩:=Int.eq_ofNat_of_zero_le hc.1
    have hcn:cn<used.length:=by omega
    have ekc:kc ((cn:Int)::rest) cn=kc rest cn+1:=by rw[Qap];unfold one;rw[if_pos rfl]
    have eup:kc rest=up (kc ((cn:Int)::rest)) cn (-1):=by
      funext i
      unfold up
      by_cases e:i=cn
      · subst e;rw[if_pos rfl,ekc];omega
      · rw[if_neg e,Qap];unfold one;rw[if_neg (by omega)];omega
    by_cases htc:1≤t cn
    · have huc:uf used cn<hi:=by have:=(t1.bd cn hcn).2;omega
      obtain⟨m1,m2⟩:=QgS hlh hu hk1 hcn (by have:=(Qae rest cn).1;omega) huc t1 t2 htc
      rw[hleft,←eup] at m1 m2
      refine⟨cn,hcn,?_⟩
      unfold fit Qbd
      have q:(decide (QL lo hi used.length (kc rest) (up (uf used) cn 1) rest.length≥0)&&((cn:Int)==(cn:Int)))=true:=by rw[decide_eq_true m2];simp
      rw[if_pos q,m1,decide_eq_true huc]
      simp[allP]
    · -- another one that has more than keep
      by_cases hex:∃j,j<used.length∧j≠cn∧kc ((cn:Int)::rest) j<t j
      · obtain⟨j,j1,j2,j3⟩:=hex
        refine mv j j1 (by omega) j3 fun i hi' hki=>?_
        have:i=cn:=by
          by_cases e:i=cn
          · exact e
          · rw[Qap] at hki;unfold one at hki;rw[if_neg (by omega)] at hki;omega
        subst this
        exact⟨by have:=ht0 i hi';omega,fun e=>j2 e.symm⟩
      · have hall:∀j,j<used.length→t j≤kc ((cn:Int)::rest) j:=fun j hj=>by
          by_cases e:j=cn
          · subst e;have:=(Qae rest j).1;omega
          · by_cases q:kc ((cn:Int)::rest) j<t j
            · exact absurd ⟨j,hj,e,q⟩ hex
            · omega
        have:=QbP cn hall hcn (by have:=(Qae rest cn).1;omega)
        have:=QeA ((cn:Int)::rest) used.length
        have:=t1.sum
        omega
  · have heq:∀j,j<used.length→kc (c::rest) j=kc rest j:=fun j hj=>by
      rw[Qap];unfold one;rw[if_neg (by omega)];omega
    by_cases hex:∃j,j<used.length∧kc (c::rest) j<t j
    · obtain⟨j,j1,j3⟩:=hex
      exact mv j j1 (by omega) j3 fun i hi' hki=>by rw[heq i hi'] at hki;omega
    · have hall:∀j,j<used.length→t j≤kc rest j:=fun j hj=>by
        by_cases q:kc (c::rest) j<t j
        · exact absurd ⟨j,hj,q⟩ hex
        · rw[heq j hj] at q;omega
      have h1:=Qao hall
      have h2:=QeA rest used.length
      have h3:=t1.sum
      rw[List.length_cons] at h3
      omega

structure GOk (lo hi:Int) (rest used out used':List Int):Prop where
  len:out.length=rest.length
  mem:∀x∈out,0≤x∧x<used.length
  ulen:used'.length=used.length
  use:∀j,j<used.length→uf used' j=uf used j+kc out j
  keep:QD rest out=allP lo hi rest used
  bd:∀j,j<used.length→lo≤uf used' j∧uf used' j≤hi

theorem G_ok {lo hi:Int} (hlh:lo≤hi):∀(rest used:List Int),(∀j,j<used.length→uf used j≤hi)→0≤allP lo hi rest used→GOk lo hi rest used (G lo hi rest used).1 (G lo hi rest used).2
  | [],used,hu,hm=>by
    obtain⟨t,t1,t2⟩:=Qa7 hlh hu hm
    have ht0:∀j,j<used.length→0≤t j:=fun j hj=>by have:=(t1.bd j hj).1;unfold lowP at this;omega
    have hz:∀j,j<used.length→t j=0:=fun j hj=>by
      have a:=ht0 j hj
      by_cases e:t j=0
      · exact e
      · have:=QbP (g:=fun _=>0) (g':=t) j ht0 hj (by omega)
        rw[Q4 fun _ _=>rfl,t1.sum] at this
        simp at this
    refine⟨rfl,fun x hx=>(by cases hx),rfl,fun j _=>?_,?_,fun j hj=>?_⟩
    · show uf used j=uf used j+0;omega
    · have:valP used.length (kc []) t=0:=Q4 fun j hj=>by rw[hz j hj];rfl
      show (0:Int)=allP lo hi [] used
      unfold allP
      rw[←t2,this]
    · have:=(t1.bd j hj).1
      have:=hz j hj
      have:=hu j hj
      show lo≤uf used j∧uf used j≤hi
      unfold lowP at *
      omega
  | c::rest,used,hu,hm=>by
    obtain⟨j0,hj0,hf0⟩:=QgW hlh hu hm
    rw[Qfl]
    cases hsk:seek (fit lo hi rest c used) 0 used.length with
    | none=>
      have:=Qdh hsk j0 (by omega) (by omega)
      rw[hf0] at this;cases this
    | some j=>
      obtain⟨_,q1,q2⟩:=Qcw hsk
      have hj:j<used.length:=by omega
      have hlt:=QgU q2
      have hsc:Qbd lo hi rest c used j=allP lo hi (c::rest) used:=by
        unfold fit at q2
        simp only[Bool.and_eq_true,beq_iff_eq] at q2
        exact q2.2
      have ea:QL lo hi used.length (kc rest) (up (uf used) j 1) rest.length=allP lo hi rest (more used j):=by unfold allP;rw[Qba hj,Q0]
      have hm':0≤allP lo hi rest (more used j)∧(if (j:Int)=c then 1 else 0)+allP lo hi rest (more used j)=allP lo hi (c::rest) used:=by
        unfold Qbd at hsc
        rw[ea] at hsc
        split at hsc
        · rename_i hq
          simp only[Bool.and_eq_true,decide_eq_true_eq,beq_iff_eq] at hq
          rw[if_pos hq.2];omega
        · rename_i hq
          rw[hsc] at hq ⊢
          have hne:¬(j:Int)=c:=fun e=>hq (by rw[decide_eq_true hm];simpa using e)
          rw[if_neg hne];omega
      have hu':∀i,i<(more used j).length→uf (more used j) i≤hi:=fun i hi'=>by
        rw[Q0] at hi'
        rw[Qba hj]
        by_cases e:i=j
        · subst e;rw[Q9];omega
        · rw[Qad _ _ e];exact hu i hi'
      have ih:=G_ok hlh rest (more used j) hu' hm'.1
      refine⟨by simp[ih.len],fun x hx=>?_,by rw[ih.ulen,Q0],fun i hi'=>?_,?_,fun i hi'=>ih.bd i (by rw[Q0];exact hi')⟩
      · rcases List.mem_cons.1 hx with rfl | hx
        · omega
        · have:=ih.mem x hx;rw[Q0] at this;exact this
      · have:=ih.use i (by rw[Q0];exact hi')
        dsimp only
        rw[this,Qba hj,Qap]
        unfold up one
        by_cases e:i=j
        · subst e;rw[if_pos rfl,if_pos rfl];omega
        · rw[if_neg e,if_neg (by omega)];omega
      · show (if (j:Int)=c then 1 else 0)+QD rest (G lo hi rest (more used j)).1=_
        rw[ih.keep];exact hm'.2

end Go.Proofs.Ytbggdodepjhliaa

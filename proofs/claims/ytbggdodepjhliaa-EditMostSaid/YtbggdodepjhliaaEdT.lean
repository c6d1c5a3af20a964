/- Edit: the documented examples; the law EditRefs. No condition. -/
import Derived.Test.YtbggdodepjhliaaEdS
namespace Go.Proofs.Ytbggdodepjhliaa
open Go.Sim

theorem Qfo:QaE=some true:=by
  have key:Ok QaE (fun r=>r=true):=by
    unfold QaE
    refine (QcP (by decide)).bind fun r1 h1=>?_
    refine (QcP (by decide)).bind fun r2 h2=>?_
    refine (QcP (by decide)).bind fun r3 h3=>?_
    have z1:errR [(0:Int),(0:Int),(0:Int),(1:Int)] 2 2 2=0:=by decide
    have z2:errR [(0:Int),(0:Int),(5:Int)] 3 1 1=0:=by decide
    have z3:errR [(0:Int)] 2 1 1=14:=by decide
    rcases h1 with⟨q,_⟩ | ⟨_,t1,L1,e1,h1,_⟩
    · exact absurd z1 q
    rcases h2 with⟨q,_⟩ | ⟨_,t2,L2,e2,h2,_⟩
    · exact absurd z2 q
    rcases h3 with⟨_,h3⟩ | ⟨q,_⟩
    · have:t1=2:=by omega
      subst this
      have:t2=3:=by omega
      subst this
      have g1:(G 2 (min 2 (([(0:Int),(0:Int),(0:Int),(1:Int)]:List Int).length:Int)) [(0:Int),(0:Int),(0:Int),(1:Int)] (QF 2)).1=[0,0,1,1]:=by decide
      have g2:(G 1 (min 1 (([(0:Int),(0:Int),(5:Int)]:List Int).length:Int)) [(0:Int),(0:Int),(5:Int)] (QF 3)).1=[0,1,2]:=by decide
      have g3:QaG [(0:Int),(0:Int),(0:Int),(1:Int)] [0,0,1,1] 2=[(2:Int),(0:Int),(2:Int),(1:Int),(1:Int),(2:Int),(4:Int)]:=by decide
      rw[g1,g3] at h1
      rw[g2] at h2
      rw[z3] at h3
      subst h1;subst h2;subst h3
      dsimp only
      rw[if_neg (by decide),Qcy (by decide)]
      simp only[Option.bind_some]
      rw[Qcy (by decide),Qcy (by decide)]
      exact Ok.mk rfl
    · rw[z3] at q;cases q
  obtain⟨r,hr,rfl⟩:=key
  exact hr

theorem QhZ {p n:Int} (hp:I64 p):Ok (QaH p n) (fun r=>0≤r∧(1≤n→r<n)):=by
  have hp':=hp
  unfold I64 at hp'
  have key:∀q:Int,0≤q→Ok (if decide (n<1)=true then some 0 else (nz n).bind fun _=>some (Int.tmod q n)) (fun r=>0≤r∧(1≤n→r<n)):=fun q hq=>by
    refine Ok.ite (fun h=>?_) (fun h=>?_)
    · have:n<1:=of_decide_eq_true h
      exact Ok.mk ⟨Int.le_refl _,fun h=>by omega⟩
    · have:¬n<1:=of_decide_eq_false h
      rw[nz_of (by omega)]
      exact Ok.mk ⟨Int.tmod_nonneg _ hq,fun _=>Int.tmod_lt_of_pos _ (by omega)⟩
  unfold QaH
  refine Ok.bind (P:=fun q=>0≤q) (Ok.ite (fun h=>?_) (fun h=>?_)) (fun q hq=>key q hq)
  · have:p<0:=of_decide_eq_true h
    refine Ok.mk ?_
    have e1:IntKind.i64.wrap (p+1)=p+1:=w64 (by omega) (by omega)
    rw[e1,w64 (by omega) (by omega)];omega
  · have:¬p<0:=of_decide_eq_false h
    exact Ok.mk (by omega)
section
variable {β:Type} {Q:β→Prop}
theorem Ok.arnd {p n:Int} {f:Int→Option β} (hp:I64 p) (hn:1≤n) (k:∀r,0≤r→r<n→Ok (f r) Q):Ok ((QaH p n).bind f) Q:=
  (QhZ hp).bind fun r h=>k r h.1 (h.2 hn)
theorem at_ok {l:List Int} {i n:Int} (hl:∀x∈l,I64 x) (hn:1≤n):Ok (QaK l i n) (fun r=>0≤r∧r<n):=by
  unfold QaK
  refine Ok.ite (fun h=>Ok.mk ⟨Int.le_refl _,by omega⟩) (fun h=>?_)
  simp only[Bool.or_eq_false_iff,decide_eq_false_iff_not] at h
  refine Ok.idx (by omega) (by omega) fun v hv _=>?_
  exact Ok.arnd (hl v hv) hn fun r h0 h1=>Ok.mk ⟨h0,h1⟩
theorem Ok.at1 {l:List Int} {i n:Int} {f:Int→Option β} (hl:∀x∈l,I64 x) (hn:1≤n) (k:∀r,0≤r→r<n→Ok (f r) Q):Ok ((QaK l i n).bind f) Q:=
  (at_ok hl hn).bind fun r h=>k r h.1 h.2
end

theorem Qh0 {l:List Int} (hl:∀x∈l,I64 x):Ok (Qbu l) (fun r=>r.1.length≤10∧0≤r.2.1∧r.2.1≤4∧0≤r.2.2.1∧r.2.2.1≤2∧r.2.2.1≤r.2.2.2∧r.2.2.2≤6):=by
  unfold Qbu
  refine Ok.at1 hl (by decide) fun to t0 t1=>?_
  refine Ok.at1 hl (by decide) fun lo l0 l1=>?_
  refine Ok.bind (P:=fun r:List Int=>r.length≤10) (Ok.loop (fun m s=>4≤s.1∧s.1+m=14∧(s.2.length:Int)+4=s.1) 10 ⟨Int.le_refl _,by decide,by decide⟩ fun m s hs=>?_) fun r hr=>?_
  · obtain⟨h1,h2,h3⟩:=hs
    obtain⟨i,out⟩:=s
    dsimp only at h1 h2 h3 ⊢
    refine Ok.ite (fun h=>?_) (fun _=>Ok.mk (by dsimp only;omega))
    simp only[Bool.and_eq_true,decide_eq_true_eq] at h
    rw[w64 (n:=to+2) (by omega) (by omega)]
    refine Ok.at1 hl (by omega) fun r r0 r1=>?_
    refine Ok.rm (by simp;omega) (Ok.mk ⟨m - 1,by omega,?_,?_,?_⟩)
    · dsimp only;rw[w64 (n:=i+1) (by omega) (by omega)];omega
    · dsimp only;rw[w64 (n:=i+1) (by omega) (by omega)];omega
    · dsimp only;rw[w64 (n:=i+1) (by omega) (by omega)];simp;omega
  · refine Ok.at1 hl (by decide) fun d d0 d1=>?_
    rw[w64 (n:=lo+d) (by omega) (by omega)]
    exact Ok.mk ⟨hr,t0,by dsimp only;omega,l0,by dsimp only;omega,by dsimp only;omega,by dsimp only;omega⟩

end Go.Proofs.Ytbggdodepjhliaa

/- Edit: the documented examples; the law EditRefs. No condition. -/
import Derived.Test.YtbggdodepjhliaaEdS
namespace Go.Proofs.Ytbggdodepjhliaa
open Go.Sim

theorem Qia:Qbd=some true:=by
  have key:Ok Qbd (fun r=>r=true):=by
    unfold Qbd
    refine (Qd3 (by decide)).bind fun r1 h1=>?_
    refine (Qd3 (by decide)).bind fun r2 h2=>?_
    refine (Qd3 (by decide)).bind fun r3 h3=>?_
    have z1:errR [(0:Int),(0:Int),(0:Int),(1:Int)] 2 2 2=0:=by decide
    have z2:errR [(0:Int),(0:Int),(5:Int)] 3 1 1=0:=by decide
    have z3:errR [(0:Int)] 2 1 1=14:=by decide
    rcases h1 with⟨q,_⟩ | ⟨_,t1,L1,e1,h1,_⟩
    · exact absurd z1 q
    rcases h2 with⟨q,_⟩ | ⟨_,t2,L2,e2,h2,_⟩
    · exact absurd z2 q
    rcases h3 with⟨_,h3⟩ | ⟨q,_⟩
    · have:t1=2:=by omega
      subst this
      have:t2=3:=by omega
      subst this
      have g1:(G 2 (min 2 (([(0:Int),(0:Int),(0:Int),(1:Int)]:List Int).length:Int)) [(0:Int),(0:Int),(0:Int),(1:Int)] (Qal 2)).1=[0,0,1,1]:=by decide
      have g2:(G 1 (min 1 (([(0:Int),(0:Int),(5:Int)]:List Int).length:Int)) [(0:Int),(0:Int),(5:Int)] (Qal 3)).1=[0,1,2]:=by decide
      have g3:Qaq [(0:Int),(0:Int),(0:Int),(1:Int)] [0,0,1,1] 2=[(2:Int),(0:Int),(2:Int),(1:Int),(1:Int),(2:Int),(4:Int)]:=by decide
      rw[g1,g3] at h1
      rw[g2] at h2
      rw[z3] at h3
      subst h1;subst h2;subst h3
      dsimp only
      rw[if_neg (by decide),Qb7 (by decide)]
      simp only[Option.bind_some]
      rw[Qb7 (by decide),Qb7 (by decide)]
      exact Ok.mk rfl
    · rw[z3] at q;cases q
  obtain⟨r,hr,rfl⟩:=key
  exact hr

theorem Qiv {p n:Int} (hp:I64 p):Ok (QO p n) (fun r=>0≤r∧(1≤n→r<n)):=by
  have hp':=hp
  unfold I64 at hp'
  have key:∀q:Int,0≤q→Ok (if decide (n<1)=true then some 0 else (nz n).bind fun _=>some (Int.tmod q n)) (fun r=>0≤r∧(1≤n→r<n)):=fun q hq=>by
    refine Ok.ite (fun h=>?_) (fun h=>?_)
    · have:n<1:=of_decide_eq_true h
      exact Ok.mk ⟨Int.le_refl _,fun h=>by omega⟩
    · have:¬n<1:=of_decide_eq_false h
      rw[nz_of (by omega)]
      exact Ok.mk ⟨Int.tmod_nonneg _ hq,fun _=>Int.tmod_lt_of_pos _ (by omega)⟩
  unfold QO
  refine Ok.bind (P:=fun q=>0≤q) (Ok.ite (fun h=>?_) (fun h=>?_)) (fun q hq=>key q hq)
  · have:p<0:=of_decide_eq_true h
    refine Ok.mk ?_
    have e1:IntKind.i64.wrap (p+1)=p+1:=w64 (by omega) (by omega)
    rw[e1,w64 (by omega) (by omega)];omega
  · have:¬p<0:=of_decide_eq_false h
    exact Ok.mk (by omega)
section
variable {β:Type} {Q:β→Prop}
theorem Ok.arnd {p n:Int} {f:Int→Option β} (hp:I64 p) (hn:1≤n) (k:∀r,0≤r→r<n→Ok (f r) Q):Ok ((QO p n).bind f) Q:=
  (Qiv hp).bind fun r h=>k r h.1 (h.2 hn)
theorem at_ok {l:List Int} {i n:Int} (hl:∀x∈l,I64 x) (hn:1≤n):Ok (QaU l i n) (fun r=>0≤r∧r<n):=by
  unfold QaU
  refine Ok.ite (fun h=>Ok.mk ⟨Int.le_refl _,by omega⟩) (fun h=>?_)
  simp only[Bool.or_eq_false_iff,decide_eq_false_iff_not] at h
  refine Ok.idx (by omega) (by omega) fun v hv _=>?_
  exact Ok.arnd (hl v hv) hn fun r h0 h1=>Ok.mk ⟨h0,h1⟩
theorem Ok.at1 {l:List Int} {i n:Int} {f:Int→Option β} (hl:∀x∈l,I64 x) (hn:1≤n) (k:∀r,0≤r→r<n→Ok (f r) Q):Ok ((QaU l i n).bind f) Q:=
  (at_ok hl hn).bind fun r h=>k r h.1 h.2
end

theorem Qiw {l:List Int} (hl:∀x∈l,I64 x):Ok (QbP l) (fun r=>r.1.length≤10∧0≤r.2.1∧r.2.1≤4∧0≤r.2.2.1∧r.2.2.1≤2∧r.2.2.1≤r.2.2.2∧r.2.2.2≤6):=by
  unfold QbP
  refine Ok.at1 hl (by decide) fun to t0 t1=>?_
  refine Ok.at1 hl (by decide) fun lo l0 l1=>?_
  refine Ok.bind (P:=fun r:List Int=>r.length≤10) (Ok.loop (fun m s=>4≤s.1∧s.1+m=14∧(s.2.length:Int)+4=s.1) 10 ⟨Int.le_refl _,by decide,by decide⟩ fun m s hs=>?_) fun r hr=>?_
  · obtain⟨h1,h2,h3⟩:=hs
    obtain⟨i,out⟩:=s
    dsimp only at h1 h2 h3 ⊢
    refine Ok.ite (fun h=>?_) (fun _=>Ok.mk (by dsimp only;omega))
    simp only[Bool.and_eq_true,decide_eq_true_eq] at h
    rw[w64 (n:=to+2) (by omega) (by omega)]
    refine Ok.at1 hl (by omega) fun r r0 r1=>?_
    refine Ok.rm (by simp;omega) (Ok.mk ⟨m - 1,by omega,?_,?_,?_⟩)
    · dsimp only;rw[w64 (n:=i+1) (by omega) (by omega)];omega
    · dsimp only;rw[w64 (n:=i+1) (by omega) (by omega)];omega
    · dsimp only;rw[w64 (n:=i+1) (by omega) (by omega)];simp;omega
  · refine Ok.at1 hl (by decide) fun d d0 d1=>?_
    rw[w64 (n:=lo+d) (by omega) (by omega)]
    exact Ok.mk ⟨hr,t0,by dsimp only;omega,l0,by dsimp only;omega,by dsimp only;omega,by dsimp only;omega⟩

theorem Qix (n lo hi:Int):Qcc n lo hi=Qbr n lo hi:=rfl
theorem QhD (n lo hi:Int):∃r,Qbr n lo hi=some r:=by
  unfold Qbr
  split
  · exact⟨_,rfl⟩
  · exact⟨_,rfl⟩

theorem Qgk {l raw:List Int} {to lo hi n:Int} (hl:∀x∈l,I64 x) (ht:I64 to) (hlo:I64 lo) (hhi:I64 hi) (hn:I64 n):QaX l raw to lo hi n=some true:=by
  have key:Ok (QaX l raw to lo hi n) (fun r=>r=true):=by
    unfold QaX
    refine (Qiw hl).bind fun o ho=>?_
    refine Ok.bind (P:=fun r:List Int=>r.length≤12) ?_ fun some' hsome=>?_
    · unfold Qcr
      have i1:=Qel (raw.length:Int) 12;have i2:=Qem (raw.length:Int) 12;have i3:=Qe6 (a:=(raw.length:Int)) (b:=12) (c:=0) (by omega) (by decide)
      refine Ok.sub (Int.le_refl _) i3 i1 fun r hr _=>?_
      refine Ok.rm (by simp;omega) (Ok.mk ?_)
      simp;omega
    refine Ok.arnd hn (by decide) fun a1 a10 a11=>?_
    rw[w64 (n:=510+a1) (by omega) (by omega)]
    refine Ok.mk' (by omega) (by omega) ?_
    refine Ok.arnd ht (by decide) fun a2 _ _=>Ok.arnd hlo (by decide) fun a3 _ _=>Ok.arnd hhi (by decide) fun a4 _ _=>Ok.arnd ht (by decide) fun a5 _ _=>Ok.arnd hhi (by decide) fun a6 _ _=>Ok.arnd ht (by decide) fun a7 _ _=>?_
    generalize hA:[(Qp.mk o.2.1 o.2.2.1 o.2.2.2),(Qp.mk (IntKind.i64.wrap (a2 - (1:Int))) (IntKind.i64.wrap (a3 - (1:Int))) a4),(Qp.mk (IntKind.i64.wrap ((1:Int)+a5)) (0:Int) (IntKind.i64.wrap ((510:Int)+a6))),(Qp.mk (IntKind.i64.wrap ((61:Int)+a7)) (0:Int) o.2.2.2),(Qp.mk to lo hi)]=A
    generalize hB:[o.1,some',List.replicate (510+a1).toNat (0:Int),o.1,([]:(List Int))]=B
    have hAl:A.length=5:=by rw[←hA];rfl
    have hBl:B.length=5:=by rw[←hB];rfl
    have hBm:∀x∈B,x.length≤1000000:=fun x hx=>by
      rw[←hB] at hx
      simp only[List.mem_cons,List.not_mem_nil,or_false] at hx
      rcases hx with rfl | rfl | rfl | rfl | rfl
      · omega
      · omega
      · rw[List.length_replicate];omega
      · omega
      · simp
    refine Ok.bind (P:=fun r=>r=.inl ()) (Ok.loop (fun g s=>∃i:Nat,s=i∧i+g=5) 5 ⟨0,rfl,rfl⟩ fun g s hs=>?_) fun r hr=>?_
    · obtain⟨i,i1,i2⟩:=hs
      subst i1
      refine Ok.ite (fun hi=>?_) (fun _=>Ok.mk rfl)
      have hi:(i:Int)<5:=of_decide_eq_true hi
      have eB:idx B (i:Int)=some (B[i]'(by omega)):=QdL (by omega)
      have eA:idx A (i:Int)=some (A[i]'(by omega)):=QdL (by omega)
      have hBi:=hBm _ (List.getElem_mem (l:=B) (n:=i) (by omega))
      rw[eB,eA]
      generalize B[i]'(by omega)=old at hBi
      generalize A[i]'(by omega)=a
      simp only[Option.bind_some]
      refine (Qd3 hBi).bind fun r hr=>?_
      refine (Qg4 (old:=old) (to:=a.a0) (lo:=a.a1) (hi:=a.a2)).bind fun q hq=>?_
      rcases hr with⟨z,hr⟩ | ⟨z,t,L,et,hr,hb⟩
      · rcases hq with⟨_,hq⟩ | ⟨z',_⟩
        · subst hr;subst hq
          dsimp only
          have e1:(errR old a.a0 a.a1 a.a2 !=errR old a.a0 a.a1 a.a2)=false:=by simp
          have e2:(errR old a.a0 a.a1 a.a2==0)=false:=by simpa using z
          have e3:(errR old a.a0 a.a1 a.a2 !=0)=true:=by simpa using z
          rw[e1,e2,e3,show ((false==false)=true) from rfl,Qbl,Qb7 (by decide)]
          simp only[Option.bind_some]
          exact Ok.mk ⟨g - 1,by omega,i+1,by rw[w64 (by omega) (by omega)];rfl,by omega⟩
        · exact absurd z' z
      · rcases hq with⟨z',_⟩ | ⟨_,t',et',hq⟩
        · exact absurd z z'
        · have:t'=t:=by omega
          subst this
          rw[et] at z
          obtain⟨_,ha,hg⟩:=Qes z
          subst hr;subst hq
          dsimp only
          rw[show ((0:Int) !=0)=false from rfl,show ((0:Int)==0)=true from rfl,show ((false==false)=true) from rfl,Qbl,Qb7 (by have:=hg.len;omega)]
          simp only[Option.bind_some]
          simp only[show ((false||!true)==false&&true==true)=true from rfl,Qbl,Option.bind_some]
          rw[et,Qh9 ha hg.len hb]
          exact Ok.mk ⟨g - 1,by omega,i+1,by rw[w64 (by omega) (by omega)];rfl,by omega⟩
    · subst hr
      dsimp only
      rw[Qix]
      obtain⟨k,hk⟩:=QhD n lo hi
      rw[hk]
      simp only[Option.bind_some]
      rw[show (k==k)=true by simp,Qia]
      exact Ok.mk rfl
  obtain⟨r,hr,rfl⟩:=key
  exact hr

end Go.Proofs.Ytbggdodepjhliaa

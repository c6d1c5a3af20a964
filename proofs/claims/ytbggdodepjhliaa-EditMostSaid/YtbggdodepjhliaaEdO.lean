/- Edit: both programs make the network. No condition. -/
import Derived.Test.YtbggdodepjhliaaEdN
namespace Go.Proofs.Ytbggdodepjhliaa
open Go.Sim

theorem Qgk {rest:List Int} {to:Nat} (ht:to≤62) (hr:rest.length≤600) {body:Int×List Int→Option ((Int×List Int)⊕List Int)}
    (hb:∀s:Int×List Int,body s=((if (decide (s.1<(rest.length:Int)))=true then (idx rest s.1).bind fun t26=>((if ((decide (t26≥(0:Int)))&&(decide (t26<(to:Int))))=true then (idx s.2 t26).bind fun t37=>(setAt s.2 t26 (IntKind.i64.wrap (t37+(1:Int)))).bind fun t40s=>(some t40s) else (some s.2))).bind fun (p60:List Int)=>(some (.inl ((IntKind.i64.wrap (s.1+(1:Int))),p60))) else (some (.inr s.2))):Option ((Int×List Int)⊕((List Int))))):
    Ok (Ql body ((0:Int),List.replicate to (0:Int))) (fun c=>c.length=to∧∀j,j<to→uf c j=kc rest j):=by
  refine Ok.loop (fun g s=>∃q:Nat,s.1=q∧q+g=rest.length∧s.2.length=to∧∀j,j<to→uf s.2 j=kc (rest.take q) j) rest.length ⟨0,rfl,by omega,by simp,fun j hj=>?_⟩ fun g s hs=>?_
  · show uf (List.replicate _ 0) j=0
    unfold uf lv
    rw[List.getElem?_replicate]
    split<;>rfl
  · obtain⟨q,h1,h2,h3,h4⟩:=hs
    rw[hb]
    obtain⟨sq,c⟩:=s
    dsimp only at h1 h3 h4 ⊢
    subst h1
    refine Ok.ite (fun hq=>?_) (fun hq=>?_)
    · have hq:(q:Int)<rest.length:=of_decide_eq_true hq
      refine Ok.idx (by omega) hq fun v hv hqv=>?_
      have hqv:rest[q]?=some v:=by simpa using hqv
      have hql:q<rest.length:=by omega
      have e1:rest.take (q+1)=rest.take q++[v]:=by
        rw[List.take_succ_eq_append_getElem hql]
        rw[List.getElem?_eq_getElem hql] at hqv
        rw[Option.some.inj hqv]
      have e2:∀j,kc (rest.take (q+1)) j=kc (rest.take q) j+one (v=(j:Int)):=fun j=>by
        unfold kc one
        rw[e1,List.count_append,List.count_singleton]
        by_cases e:v=(j:Int)
        · rw[if_pos (by simpa using e),if_pos e];rfl
        · rw[if_neg (by simpa using e),if_neg e];omega
      refine Ok.bind (P:=fun c=>c.length=to∧∀j,j<to→uf c j=kc (rest.take (q+1)) j) (Ok.ite (fun hh=>?_) (fun hh=>?_)) fun c' hc'=>Ok.mk ⟨g - 1,by omega,q+1,by rw[w64 (by omega) (by omega)];rfl,by omega,hc'.1,hc'.2⟩
      · simp only[Bool.and_eq_true,decide_eq_true_eq] at hh
        obtain⟨v0,v1⟩:=hh
        refine Ok.lv v0 (by omega) (Ok.setAt v0 (by omega) (Ok.mk ⟨by rw[List.length_set];exact h3,fun j hj=>?_⟩))
        have b:=Qae (rest.take q) v.toNat
        have hlt:=List.length_take (i:=q) (l:=rest)
        have hv':=h4 v.toNat (by omega)
        unfold uf at hv'
        have ev:((v.toNat:Nat):Int)=v:=by omega
        rw[ev] at hv'
        show lv (c.set v.toNat _) (j:Int)=_
        rw[Qbx v0 (by omega) _ (by omega),e2,w64 (by omega) (by omega)]
        unfold one
        by_cases e:(j:Int)=v
        · have:j=v.toNat:=by omega
          subst this
          rw[if_pos e,if_pos e.symm,hv']
        · rw[if_neg e,if_neg (fun q=>e q.symm)]
          have:=h4 j hj
          unfold uf at this
          omega
      · refine Ok.mk ⟨h3,fun j hj=>?_⟩
        rw[e2,h4 j hj]
        unfold one
        rw[if_neg]
        · omega
        · intro e
          subst e
          have:(decide ((j:Int)≥0)&&decide ((j:Int)<(to:Int)))=true:=by
            rw[decide_eq_true (by omega),decide_eq_true (by omega)];rfl
          rw[this] at hh;cases hh
    · have hq:¬(q:Int)<rest.length:=of_decide_eq_false hq
      have:q=rest.length:=by omega
      subst this
      refine Ok.mk ⟨h3,fun j hj=>?_⟩
      rw[h4 j hj,List.take_of_length_le (Nat.le_refl _)]

theorem Qgl {old used:List Int} {to:Nat} {lo hi:Int} (ht:to≤62) (ho:old.length≤512):Q2 ⟨old,used,lo,hi⟩ (to:Int)=some (net old to lo hi):=by
  have key:Ok (Q2 ⟨old,used,lo,hi⟩ (to:Int)) (fun r=>r=net old to lo hi):=by
    unfold Q2
    dsimp only
    refine Ok.mk' (by omega) (by omega) ?_
    refine (Qgk ht (by omega) (rest:=old) (fun s=>rfl)).bind fun c hc=>?_
    obtain⟨c1,c2⟩:=hc
    have ew:IntKind.i64.wrap ((to:Int)+1)=(to:Int)+1:=w64 (by omega) (by omega)
    rw[ew]
    refine Ok.bind (P:=fun r=>r=netN old to lo hi to) (Ok.loop (fun g s=>∃j:Nat,s.1=j∧j+g=to∧s.2=netN old to lo hi j) to ⟨0,rfl,by omega,rfl⟩ fun g s hs=>?_) fun r hr=>?_
    · obtain⟨j,h1,h2,h3⟩:=hs
      obtain⟨sj,l⟩:=s
      dsimp only at h1 h3 ⊢
      subst h1;subst h3
      have hl:=Qbi (old:=old) (to:=to) (lo:=lo) (hi:=hi) j
      refine Ok.ite (fun hj=>?_) (fun hj=>?_)
      · have hj:(j:Int)<c.length:=of_decide_eq_true hj
        have ec:idx c (j:Int)=some (kc old j):=by
          rw[Qeb (by omega) hj]
          exact congrArg some (c2 j (by omega))
        rw[ec]
        simp only[Option.bind_some]
        refine Ok.rm (by simp;omega) (Ok.mk ⟨g - 1,by omega,j+1,by rw[w64 (by omega) (by omega)];rfl,by omega,rfl⟩)
      · have hj:¬(j:Int)<c.length:=of_decide_eq_false hj
        have:j=to:=by omega
        subst this
        exact Ok.mk rfl
    · subst hr
      have hl:=Qbi (old:=old) (to:=to) (lo:=lo) (hi:=hi) to
      exact Ok.rm (by simp;omega) (Ok.mk rfl)
  obtain⟨r,hr,rfl⟩:=key
  exact hr

end Go.Proofs.Ytbggdodepjhliaa

/- Edit: both programs compute the greatest number that keep. No condition. -/
import Derived.Test.YtbggdodepjhliaaEdI
namespace Go.Proofs.Ytbggdodepjhliaa
open Go.Sim

theorem Qez (a b:Int):imax a b=max a b:=by unfold imax;split<;>omega
theorem QcO (a b:Int):imin a b=min a b:=by unfold imin;split<;>omega
/-- How many of a list are a number. -/
def kc (l:List Int) (j:Nat):Int:=(l.count (j:Int):Int)
def uf (l:List Int) (j:Nat):Int:=lv l (j:Int)
theorem Qae (l:List Int) (j:Nat):0≤kc l j∧kc l j≤l.length:=by
  unfold kc
  have:=List.count_le_length (a:=(j:Int)) (l:=l)
  omega

/-- Numbers that are small. -/
structure Qa8 (used:List Int) (lo hi:Int):Prop where
  len:used.length≤62
  bd:∀u∈used,0≤u∧u≤600∧0≤lo∧lo≤600∧0≤hi∧hi≤600
theorem Qa8.at {used:List Int} {lo hi:Int} (h:Qa8 used lo hi) {j:Nat} (hj:j<used.length):used[j]?=some (uf used j)∧0≤uf used j∧uf used j≤600∧0≤lo∧lo≤600∧0≤hi∧hi≤600:=by
  have e:uf used j=used[j]:=by unfold uf lv;rw[Int.toNat_natCast,List.getElem?_eq_getElem hj];rfl
  rw[e]
  exact⟨List.getElem?_eq_getElem hj,h.bd _ (List.getElem_mem hj)⟩

section
variable (lo hi:Int) (k u:Nat→Int)
/-- The sums over the first j. -/
def sA (j:Nat):Int:=psum (fun j=>aP lo hi (k j) (u j)) j
def sK (j:Nat):Int:=psum (fun j=>min (k j) (aP lo hi (k j) (u j))) j
def sD (j:Nat):Int:=psum (fun j=>aP lo hi (k j) (u j) - lowP lo (u j)) j
def sU (j:Nat):Int:=psum (fun j=>hi - u j - aP lo hi (k j) (u j)) j
end
/-- The sums are small. -/
theorem Qdu {used:List Int} {lo hi:Int} (h:Qa8 used lo hi) {k:Nat→Int} (hk:∀j,0≤k j∧k j≤600):∀j,j≤used.length→
    (-1000 * (j:Int)≤sA lo hi k (uf used) j∧sA lo hi k (uf used) j≤1000 * j)∧(-1000 * (j:Int)≤sK lo hi k (uf used) j∧sK lo hi k (uf used) j≤1000 * j)∧(-2000 * (j:Int)≤sD lo hi k (uf used) j∧sD lo hi k (uf used) j≤2000 * j)∧(-2000 * (j:Int)≤sU lo hi k (uf used) j∧sU lo hi k (uf used) j≤2000 * j)
  | 0,_=>by refine⟨⟨?_,?_⟩,⟨?_,?_⟩,⟨?_,?_⟩,?_,?_⟩<;>exact Int.le_refl 0
  | j+1,hj=>by
    obtain⟨⟨a1,a2⟩,⟨a3,a4⟩,⟨a5,a6⟩,a7,a8⟩:=Qdu h hk j (by omega)
    obtain⟨_,b1,b2,b3,b4,b5,b6⟩:=h.at (j:=j) (by omega)
    have c:=hk j
    have e1:sA lo hi k (uf used) (j+1)=sA lo hi k (uf used) j+aP lo hi (k j) (uf used j):=rfl
    have e2:sK lo hi k (uf used) (j+1)=sK lo hi k (uf used) j+min (k j) (aP lo hi (k j) (uf used j)):=rfl
    have e3:sD lo hi k (uf used) (j+1)=sD lo hi k (uf used) j+(aP lo hi (k j) (uf used j) - lowP lo (uf used j)):=rfl
    have e4:sU lo hi k (uf used) (j+1)=sU lo hi k (uf used) j+(hi - uf used j - aP lo hi (k j) (uf used j)):=rfl
    rw[e1,e2,e3,e4]
    unfold aP lowP
    push_cast
    refine⟨⟨?_,?_⟩,⟨?_,?_⟩,⟨?_,?_⟩,?_,?_⟩<;>omega

/-- The end of both. -/
theorem Qhx {used:List Int} {lo hi:Int} (h:Qa8 used lo hi) {k:Nat→Int} (hk:∀j,0≤k j∧k j≤600) {left:Int} (hl:0≤left∧left≤600) {A K U D:Int} (hA:A=sA lo hi k (uf used) used.length) (hK:K=sK lo hi k (uf used) used.length) (hU:U=sU lo hi k (uf used) used.length) (hD:D=sD lo hi k (uf used) used.length):
    (if ((decide ((IntKind.i64.wrap (A - left))>D))||(decide ((IntKind.i64.wrap (left - A))>U)))=true then some (-1:Int) else some (IntKind.i64.wrap (K - (imax (0:Int) (IntKind.i64.wrap (A - left))))))=some (QL lo hi used.length k (uf used) left):=by
  obtain⟨⟨a1,a2⟩,⟨a3,a4⟩,⟨a5,a6⟩,a7,a8⟩:=Qdu h hk used.length (Nat.le_refl _)
  have:=h.len
  rw[w64 (n:=A - left) (by omega) (by omega),w64 (n:=left - A) (by omega) (by omega),Qez,w64 (by omega) (by omega)]
  unfold QL
  unfold sA at hA;unfold sK at hK;unfold sU at hU;unfold sD at hD
  rw[←hA,←hK,←hU,←hD]
  by_cases hc:A - left>D∨left - A>U
  · rw[if_pos (by simpa using hc),if_pos hc]
  · rw[if_neg (by simpa using hc),if_neg hc]

theorem QfP {old used:List Int} {lo hi:Int} (h:Qa8 used lo hi) (ho:old.length≤600) {i:Nat} (hi':i≤old.length):QU ⟨old,used,lo,hi⟩ (i:Int)=some (QL lo hi used.length (kc (old.drop i)) (uf used) ((old.drop i).length:Int)):=by
  have hlen:=h.len
  have hdl:(old.drop i).length=old.length - i:=List.length_drop
  have hk:∀j,0≤kc (old.drop i) j∧kc (old.drop i) j≤600:=fun j=>by have:=Qae (old.drop i) j;omega
  have key:Ok (QU ⟨old,used,lo,hi⟩ (i:Int)) (fun r=>r=QL lo hi used.length (kc (old.drop i)) (uf used) ((old.drop i).length:Int)):=by
    unfold QU
    dsimp only
    refine Ok.mk' (by omega) (by omega) ?_
    have es:sub old (i:Int) (old.length:Int)=some (old.drop i):=by
      unfold sub
      rw[if_pos ⟨by omega,by omega,Int.le_refl _⟩]
      simp only[Int.toNat_natCast]
      exact congrArg some (List.take_of_length_le (by omega))
    rw[es]
    simp only[Option.bind_some]
    generalize hrest:old.drop i=rest at *
    refine Ok.bind (P:=fun c=>c.length=used.length∧∀j,j<used.length→uf c j=kc rest j) (Ok.loop (fun g s=>∃q:Nat,s.1=q∧q+g=rest.length∧s.2.length=used.length∧∀j,j<used.length→uf s.2 j=kc (rest.take q) j) rest.length ⟨0,rfl,by omega,by simp,fun j hj=>?_⟩ fun g s hs=>?_) fun c hc=>?_
    · show uf (List.replicate _ 0) j=0
      unfold uf lv
      rw[List.getElem?_replicate]
      split<;>rfl
    · obtain⟨q,h1,h2,h3,h4⟩:=hs
      obtain⟨sq,c⟩:=s
      dsimp only at h1 h3 h4 ⊢
      subst h1
      refine Ok.ite (fun hq=>?_) (fun hq=>?_)
      · have hq:(q:Int)<rest.length:=of_decide_eq_true hq
        refine Ok.idx (by omega) hq fun v hv hqv=>?_
        have hqv:rest[q]?=some v:=by simpa using hqv
        have hql:q<rest.length:=by omega
        have e1:rest.take (q+1)=rest.take q++[v]:=by
          rw[List.take_succ_eq_append_getElem hql]
          rw[List.getElem?_eq_getElem hql] at hqv
          rw[Option.some.inj hqv]
        have e2:∀j,kc (rest.take (q+1)) j=kc (rest.take q) j+one (v=(j:Int)):=fun j=>by
          unfold kc one
          rw[e1,List.count_append,List.count_singleton]
          by_cases e:v=(j:Int)
          · rw[if_pos (by simpa using e),if_pos e];rfl
          · rw[if_neg (by simpa using e),if_neg e];omega
        refine Ok.bind (P:=fun c=>c.length=used.length∧∀j,j<used.length→uf c j=kc (rest.take (q+1)) j) (Ok.ite (fun hh=>?_) (fun hh=>?_)) fun c' hc'=>Ok.mk ⟨g - 1,by omega,q+1,by rw[w64 (by omega) (by omega)];rfl,by omega,hc'.1,hc'.2⟩
        · simp only[Bool.and_eq_true,decide_eq_true_eq] at hh
          obtain⟨v0,v1⟩:=hh
          refine Ok.lv v0 v1 (Ok.setAt v0 v1 (Ok.mk ⟨by rw[List.length_set];exact h3,fun j hj=>?_⟩))
          have b:=Qae (rest.take q) v.toNat
          have hlt:=List.length_take (i:=q) (l:=rest)
          have hv':=h4 v.toNat (by omega)
          unfold uf at hv'
          have ev:((v.toNat:Nat):Int)=v:=by omega
          rw[ev] at hv'
          show lv (c.set v.toNat _) (j:Int)=_
          rw[Qbx v0 v1 _ (by omega),e2,w64 (by omega) (by omega)]
          unfold one
          by_cases e:(j:Int)=v
          · have:j=v.toNat:=by omega
            subst this
            rw[if_pos e,if_pos e.symm,hv']
          · rw[if_neg e,if_neg (fun q=>e q.symm)]
            have:=h4 j hj
            unfold uf at this
            omega
        · refine Ok.mk ⟨h3,fun j hj=>?_⟩
          rw[e2,h4 j hj]
          unfold one
          rw[if_neg]
          · omega
          · intro e
            subst e
            have:(decide ((j:Int)≥0)&&decide ((j:Int)<(c.length:Int)))=true:=by
              rw[decide_eq_true (by omega),decide_eq_true (by omega)];rfl
            rw[this] at hh;cases hh
      · have hq:¬(q:Int)<rest.length:=of_decide_eq_false hq
        have:q=rest.length:=by omega
        subst this
        refine Ok.mk ⟨h3,fun j hj=>?_⟩
        rw[h4 j hj,List.take_of_length_le (Nat.le_refl _)]
    · obtain⟨c1,c2⟩:=hc
      have hk:∀j,0≤kc rest j∧kc rest j≤600:=fun j=>by have:=Qae rest j;omega
      refine Ok.bind (P:=fun p=>p.1=sA lo hi (kc rest) (uf used) used.length∧p.2.1=sK lo hi (kc rest) (uf used) used.length∧p.2.2.1=sU lo hi (kc rest) (uf used) used.length∧p.2.2.2=sD lo hi (kc rest) (uf used) used.length) (Ok.loop (fun g s=>∃j:Nat,s.1=j∧j+g=used.length∧s.2.1=sA lo hi (kc rest) (uf used) j∧s.2.2.1=sK lo hi (kc rest) (uf used) j∧s.2.2.2.1=sU lo hi (kc rest) (uf used) j∧s.2.2.2.2=sD lo hi (kc rest) (uf used) j) used.length ⟨0,rfl,by omega,rfl,rfl,rfl,rfl⟩ fun g s hs=>?_) fun p hp=>?_
      · obtain⟨j,h1,h2,h3,h4,h5,h6⟩:=hs
        obtain⟨sj,A,K,U,D⟩:=s
        dsimp only at h1 h3 h4 h5 h6 ⊢
        subst h1
        refine Ok.ite (fun hj=>?_) (fun hj=>?_)
        · have hj:(j:Int)<c.length:=of_decide_eq_true hj
          obtain⟨e,b1,b2,b3,b4,b5,b6⟩:=h.at (j:=j) (by omega)
          obtain⟨⟨a1,a2⟩,⟨a3,a4⟩,⟨a5,a6⟩,a7,a8⟩:=Qdu h hk j (by omega)
          have cc:=hk j
          have ei:idx used (j:Int)=some (uf used j):=by rw[Qdr,e]
          have ec:idx c (j:Int)=some (kc rest j):=by
            rw[Qeb (by omega) hj]
            exact congrArg some (c2 j (by omega))
          rw[ec]
          simp only[Option.bind_some]
          rw[ei]
          simp only[Option.bind_some]
          rw[Qez,Qez,QcO,QcO,w64 (n:=lo - uf used j) (by omega) (by omega),w64 (n:=hi - uf used j) (by omega) (by omega)]
          have ea:max (max 0 (lo - uf used j)) (min (kc rest j) (hi - uf used j))=aP lo hi (kc rest j) (uf used j):=rfl
          have el:max 0 (lo - uf used j)=lowP lo (uf used j):=rfl
          rw[ea,el]
          have q1:-1000≤aP lo hi (kc rest j) (uf used j)∧aP lo hi (kc rest j) (uf used j)≤1000:=by unfold aP lowP;omega
          have q2:0≤lowP lo (uf used j)∧lowP lo (uf used j)≤1000:=by unfold lowP;omega
          refine Ok.mk ⟨g - 1,by omega,j+1,by rw[w64 (by omega) (by omega)];rfl,by omega,?_,?_,?_,?_⟩
          · dsimp only
            rw[w64 (n:=A+_) (by omega) (by omega),h3];rfl
          · dsimp only
            rw[w64 (n:=K+_) (by omega) (by omega),h4];rfl
          · dsimp only
            rw[w64 (n:=U+_) (by omega) (by omega),w64 (by omega) (by omega),h5]
            show _=sU lo hi (kc rest) (uf used) j+(hi - uf used j - aP lo hi (kc rest j) (uf used j));omega
          · dsimp only
            rw[w64 (n:=D+_) (by omega) (by omega),w64 (by omega) (by omega),h6]
            show _=sD lo hi (kc rest) (uf used) j+(aP lo hi (kc rest j) (uf used j) - lowP lo (uf used j));omega
        · have hj:¬(j:Int)<c.length:=of_decide_eq_false hj
          have:j=used.length:=by omega
          subst this
          exact Ok.mk ⟨h3,h4,h5,h6⟩
      · obtain⟨p1,p2,p3,p4⟩:=hp
        have ew:IntKind.i64.wrap ((old.length:Int) - (i:Int))=(rest.length:Int):=by rw[w64 (by omega) (by omega)];omega
        rw[ew,Qhx h hk (left:=rest.length) (by omega) p1 p2 p3 p4]
        exact Ok.mk rfl
  obtain⟨r,hr,rfl⟩:=key
  exact hr

end Go.Proofs.Ytbggdodepjhliaa

/- Edit: the reference's Refs, and its flow. No condition. -/
import Derived.Test.YtbggdodepjhliaaEdQ
namespace Go.Proofs.Ytbggdodepjhliaa
open Go.Sim

theorem Qg4 {old:List Int} {to lo hi:Int}:
    Ok (QbS old to lo hi) (fun r=>(errR old to lo hi≠0∧r=([],errR old to lo hi))∨(errR old to lo hi=0∧∃t:Nat,to=t∧r=((G lo (min hi old.length) old (Qal t)).1,0))):=by
  unfold QbS
  have herr:∀{x:Int},errR old to lo hi=x→x≠0→Ok (some (([]:List Int),x)) (fun r=>(errR old to lo hi≠0∧r=([],errR old to lo hi))∨(errR old to lo hi=0∧∃t:Nat,to=t∧r=((G lo (min hi old.length) old (Qal t)).1,0))):=fun h hx=>
    Ok.mk (.inl ⟨by rw[h];exact hx,by rw[h]⟩)
  by_cases c1:(old.length:Int)>512∨to>62
  · rw[if_pos (by simpa using c1)]
    exact herr (by unfold errR;rw[if_pos c1]) (by decide)
  rw[if_neg (by simpa using c1)]
  by_cases c2:to<0∨lo<0∨lo>hi
  · rw[if_pos (by rcases c2 with h | h | h<;>simp[h])]
    exact herr (by unfold errR;rw[if_neg c1,if_pos c2]) (by decide)
  rw[if_neg (by simp only[Bool.or_eq_true,decide_eq_true_eq];omega)]
  obtain⟨t,rfl⟩:=Int.eq_ofNat_of_zero_le (show 0≤to by omega)
  have m1:(t:Int) * min lo 1000≤62 * 1000:=Int.mul_le_mul (by omega) (by omega) (by omega) (by omega)
  have m2:(t:Int) * min hi old.length≤62 * 512:=Int.mul_le_mul (by omega) (by omega) (by omega) (by omega)
  have m3:0≤(t:Int) * min lo 1000:=Int.mul_nonneg (by omega) (by omega)
  have m4:0≤(t:Int) * min hi old.length:=Int.mul_nonneg (by omega) (by omega)
  rw[QbG,QbG,w64 (n:=(t:Int) * min lo 1000) (by omega) (by omega),w64 (n:=(t:Int) * min hi old.length) (by omega) (by omega)]
  by_cases c3:(old.length:Int)<t * min lo 1000∨(old.length:Int)>t * min hi old.length
  · rw[if_pos (by simpa using c3)]
    exact herr (by unfold errR;rw[if_neg c1,if_neg c2,if_pos c3]) (by decide)
  rw[if_neg (by simpa using c3)]
  have h0:errR old t lo hi=0:=by unfold errR;rw[if_neg c1,if_neg c2,if_neg c3]
  obtain⟨hs,ha,hg⟩:=Qes h0
  refine Ok.mk' (by omega) (by omega) ?_
  rw[Int.toNat_natCast]
  have hz:(Qal t).length=t:=List.length_replicate
  have hgr:=QgV hs (old:=old) (by omega)
  rw[hz] at hgr
  refine hgr.bind fun p hp=>?_
  subst hp
  exact Ok.mk (.inr ⟨h0,t,rfl,rfl⟩)

theorem Qg5 {old out:List Int} {to:Nat} (ht:to≤62) (ho:old.length≤512) (hl:out.length=old.length):Qbq old (to:Int) out=some (Qaq old out to):=by
  have key:Ok (Qbq old (to:Int) out) (fun r=>r=Qaq old out to):=by
    unfold Qbq
    refine Ok.bind (P:=fun r=>r=QbW old out to) (Ok.loop (fun g s=>∃j:Nat,s.1=j∧j+g=to∧s.2=QbW old out j) to ⟨0,rfl,by omega,rfl⟩ fun g s hs=>?_) fun r hr=>?_
    · obtain⟨j,h1,h2,h3⟩:=hs
      obtain⟨sj,l⟩:=s
      dsimp only at h1 h3 ⊢
      subst h1;subst h3
      have hfl:=Qb6 (old:=old) (out:=out) j
      refine Ok.ite (fun hj=>?_) (fun hj=>?_)
      · have hj:(j:Int)<to:=of_decide_eq_true hj
        refine Ok.bind (P:=fun r=>r=kp old out j) (Ok.loop (fun g s=>∃i:Nat,s.1=i∧i+g=out.length∧s.2=kp (old.take i) (out.take i) j) out.length ⟨0,rfl,by omega,by simp[kp]⟩ fun g' s hs=>?_) fun r hr=>?_
        · obtain⟨i,i1,i2,i3⟩:=hs
          obtain⟨si,m⟩:=s
          dsimp only at i1 i3 ⊢
          subst i1;subst i3
          refine Ok.ite (fun hi=>?_) (fun hi=>?_)
          · have hi:(i:Int)<out.length:=of_decide_eq_true hi
            refine Ok.idx (by omega) hi fun b hb hbi=>?_
            have hbi:out[i]?=some b:=by simpa using hbi
            have hil:i<old.length:=by omega
            have hai:old[i]?=some old[i]:=List.getElem?_eq_getElem hil
            refine Ok.opt (P:=fun r=>r=old[i]) (fun _=>⟨_,QdL hil,rfl⟩) fun r hr=>?_
            have kb:=Qd1 (old.take i) (out.take i) j
            have kb2:=QaH (out.take i) j
            have kb3:=List.length_take (i:=i) (l:=out)
            refine Ok.bind (P:=fun r=>r=kp (old.take (i+1)) (out.take (i+1)) j) ?_ fun r hr=>Ok.mk ⟨g' - 1,by omega,i+1,by rw[w64 (by omega) (by omega)];rfl,by omega,hr⟩
            rw[Qfb j hai hbi]
            by_cases e1:b=(j:Int)
            · have:=hr (by simpa using e1)
              subst this
              by_cases e2:old[i]=(j:Int)
              · rw[if_pos (by simp[e1,e2]),if_pos ⟨e1,e2⟩,w64 (by omega) (by omega)]
                exact Ok.mk rfl
              · rw[if_neg (by simp[e2]),if_neg (fun h=>e2 h.2)]
                exact Ok.mk (by omega)
            · rw[if_neg (by simp[e1]),if_neg (fun h=>e1 h.1)]
              exact Ok.mk (by omega)
          · have hi:¬(i:Int)<out.length:=of_decide_eq_false hi
            have:i=out.length:=by omega
            subst this
            refine Ok.mk ?_
            dsimp only
            rw[List.take_of_length_le (Nat.le_refl _),List.take_of_length_le (by omega)]
        · subst hr
          rw[Qep (by omega)]
          simp only[Option.bind_some]
          have kb:=Qd1 old out j
          have kb2:=QaH out j
          have ek:((out.count (j:Int):Nat):Int)=kc out j:=rfl
          rw[ek,w64 (n:=kc out j - kp old out j) (by omega) (by omega)]
          exact Ok.rm (by simp;omega) (Ok.mk ⟨g - 1,by omega,j+1,by rw[w64 (by omega) (by omega)];rfl,by omega,rfl⟩)
      · have hj:¬(j:Int)<to:=of_decide_eq_false hj
        have:j=to:=by omega
        subst this
        exact Ok.mk rfl
    · subst hr
      have hfl:=Qb6 (old:=old) (out:=out) to
      exact Ok.rm (by simp;omega) (Ok.mk rfl)
  obtain⟨r,hr,rfl⟩:=key
  exact hr

theorem Qb7 {l:List Int} (h:l.length≤1000000000):QV l l=some true:=by
  have key:Ok (QV l l) (fun r=>r=true):=by
    unfold QV
    rw[if_neg (by simp)]
    refine Ok.bind (P:=fun r=>r=.inl ()) (Ok.loop (fun g s=>∃i:Nat,s=i∧i+g=l.length) l.length ⟨0,rfl,by omega⟩ fun g s hs=>?_) fun r hr=>by subst hr;exact Ok.mk rfl
    obtain⟨i,h1,h2⟩:=hs
    subst h1
    refine Ok.ite (fun hi=>?_) (fun _=>Ok.mk rfl)
    have hi:(i:Int)<l.length:=of_decide_eq_true hi
    have hil:i<l.length:=by omega
    rw[QdL hil]
    simp only[Option.bind_some]
    rw[if_neg (by simp)]
    exact Ok.mk ⟨g - 1,by omega,i+1,by rw[w64 (by omega) (by omega)];rfl,by omega⟩
  obtain⟨r,hr,rfl⟩:=key
  exact hr

end Go.Proofs.Ytbggdodepjhliaa

/- Edit: the reference's check accepts a flow of least cost with its levels. No condition. -/
import Derived.Test.YtbggdodepjhliaaEdR
namespace Go.Proofs.Ytbggdodepjhliaa
open Go.Sim

theorem Qg6 {l:List Qb} {i:Nat} {e:Qb} (h:l[i]?=some e):idx (l.map cv) (i:Int)=some (cv e):=by
  rw[QbE,List.getElem?_map,h];rfl

theorem Qgj {n:Int} {l:List Qb} (h:QcQ n l):Qba n (l.map cv)=some 0:=by
  have h0:=h.n0;have h1:=h.n1;have h2:=h.len
  have key:Ok (Qba n (l.map cv)) (fun r=>r=0):=by
    unfold Qba
    rw[List.length_map]
    rw[decide_eq_false (show ¬n>64 by omega),decide_eq_false (show ¬(l.length:Int)>256 by omega),decide_eq_false (show ¬n<0 by omega),if_neg (by decide),if_neg (by decide)]
    refine Ok.bind (P:=fun r=>r=.inl ()) (Ok.loop (fun g s=>∃i:Nat,s=i∧i+g=l.length) l.length ⟨0,rfl,by omega⟩ fun g s hs=>?_) fun r hr=>by subst hr;exact Ok.mk rfl
    obtain⟨i,i1,i2⟩:=hs
    subst i1
    refine Ok.ite (fun hi=>?_) (fun _=>Ok.mk rfl)
    have hi:(i:Int)<l.length:=of_decide_eq_true hi
    have hil:i<l.length:=by omega
    rw[Qg6 (List.getElem?_eq_getElem hil)]
    simp only[Option.bind_some]
    have hE:=h.edges l[i] (List.getElem_mem hil)
    generalize l[i]=e at hE
    have a1:=hE.f0;have a2:=hE.f1;have a3:=hE.t0;have a4:=hE.t1;have a5:=hE.lo;have a6:=hE.le;have a7:=hE.hi;have a8:=hE.c0;have a9:=hE.c1
    unfold cv
    dsimp only
    rw[decide_eq_false (show ¬e.From<0 by omega),decide_eq_false (show ¬e.From≥n by omega),decide_eq_false (show ¬e.To<0 by omega),decide_eq_false (show ¬e.To≥n by omega),decide_eq_false (show ¬e.Lo<0 by omega),decide_eq_false (show ¬e.Lo>e.Hi by omega),decide_eq_false (show ¬e.Hi>1000 by omega),decide_eq_false (show ¬e.Cost< -1000 by omega),decide_eq_false (show ¬e.Cost>1000 by omega),if_neg (by decide)]
    exact Ok.mk ⟨g - 1,by omega,i+1,by rw[w64 (by omega) (by omega)];rfl,by omega⟩
  obtain⟨r,hr,rfl⟩:=key
  exact hr

theorem QfC {n:Int} {l:List Qb} {f:List Int} (h:QcQ n l) (hf:Qab l f):Ok (Qbb n (l.map cv) f) (fun E=>(E.length:Int)=n∧∀v,0≤v→v<n→lv E v=lin (ex v) l f):=by
  have hn0:=h.n0;have hn1:=h.n1;have hl:=h.len
  unfold Qbb
  refine Ok.mk' hn0 (by omega) ?_
  rw[List.length_map]
  refine Ok.bind (P:=fun E=>(E.length:Int)=n∧∀v,0≤v→v<n→lv E v=lin (ex v) l f) (Ok.loop (fun g s=>∃k:Nat,s.1=k∧k+g=l.length∧(s.2.length:Int)=n∧∀v,0≤v→v<n→lv s.2 v=lin (ex v) (l.take k) (f.take k)∧-1000 * k≤lv s.2 v∧lv s.2 v≤1000 * k) l.length ⟨0,rfl,by omega,by simp;omega,fun v v0 v1=>?_⟩ fun g s hs=>?_) fun r hr=>Ok.mk hr
  · have:lv (List.replicate n.toNat 0) v=0:=by
      unfold lv
      rw[List.getElem?_replicate]
      split<;>rfl
    dsimp only
    rw[this]
    exact⟨rfl,by omega,by omega⟩
  · obtain⟨k,h1,h2,h3,h4⟩:=hs
    obtain⟨sk,E⟩:=s
    dsimp only at h1 h3 h4 ⊢
    subst h1
    refine Ok.ite (fun hk=>?_) (fun hk=>?_)
    · have hk:(k:Int)<l.length:=of_decide_eq_true hk
      have hkl:k<l.length:=by omega
      have hkf:k<f.length:=by rw[hf.1];exact hkl
      have hke:l[k]?=some l[k]:=List.getElem?_eq_getElem hkl
      have hy:f[k]?=some f[k]:=List.getElem?_eq_getElem hkf
      have hE:=h.edges l[k] (List.getElem_mem hkl)
      obtain⟨y0,y1⟩:=hf.2 k _ _ hke hy
      generalize l[k]=e at hke hE y0 y1
      generalize f[k]=y at hy y0 y1
      have t0:=hE.t0;have t1:=hE.t1;have f0:=hE.f0;have f1:=hE.f1;have e0:=hE.lo;have e1:=hE.hi;have hne:=hE.ne
      have ec:=Qg6 hke
      have hyk:idx f (k:Int)=some y:=by rw[QbE,hy]
      have b1:=(h4 e.To t0 t1).2
      have b2:=(h4 e.From f0 f1).2
      rw[ec]
      simp only[Option.bind_some]
      show Ok ((idx E e.To).bind _) _
      refine Ok.lv t0 (by omega) ?_
      rw[hyk]
      simp only[Option.bind_some]
      rw[w64 (by omega) (by omega)]
      show Ok ((setAt E e.To _).bind _) _
      refine Ok.setAt t0 (by omega) ?_
      show Ok ((idx _ e.From).bind _) _
      refine Ok.lv f0 (by rw[List.length_set];omega) ?_
      rw[Qbe t0 (by omega) _ f0,if_neg hne,w64 (by omega) (by omega)]
      show Ok ((setAt _ e.From _).bind _) _
      refine Ok.setAt f0 (by rw[List.length_set];omega) (Ok.mk ⟨g - 1,by omega,k+1,by rw[w64 (by omega) (by omega)];rfl,by omega,by rw[List.length_set,List.length_set];omega,fun v v0 v1=>?_⟩)
      rw[QbZ (ex v) hke hy,Qbe f0 (by rw[List.length_set];omega) _ v0,Qbe t0 (by omega) _ v0]
      obtain⟨c1,c2,c3⟩:=h4 v v0 v1
      rw[←c1]
      unfold ex
      rw[QeM,QeM]
      by_cases ef:v=e.From
      · have et:¬v=e.To:=fun q=>hne (ef.symm.trans q)
        simp only[if_pos ef,if_neg et]
        rw[←ef]
        omega
      · by_cases et:v=e.To
        · simp only[if_neg ef,if_pos et]
          rw[←et]
          omega
        · simp only[if_neg ef,if_neg et]
          omega
    · have hk:¬(k:Int)<l.length:=of_decide_eq_false hk
      have:k=l.length:=by omega
      subst this
      refine Ok.mk ⟨h3,fun v v0 v1=>?_⟩
      obtain⟨c1,c2,c3⟩:=h4 v v0 v1
      rw[List.take_of_length_le (Nat.le_refl _),List.take_of_length_le (by rw[hf.1];exact Nat.le_refl _)] at c1
      exact c1

theorem Qh8 {n:Int} {l:List Qb} {f L:List Int} (h:QcQ n l) (hb:Best n l f L):Qbc n (l.map cv) ⟨f,L⟩=some 0:=by
  have h0:=h.n0;have h1:=h.n1;have h2:=h.len
  have hfl:=hb.within.1
  have key:Ok (Qbc n (l.map cv) ⟨f,L⟩) (fun r=>r=0):=by
    unfold Qbc
    rw[Qgj h]
    simp only[Option.bind_some]
    rw[if_neg (by decide),List.length_map,if_neg (by rw[hfl];simp[hb.len])]
    refine Ok.bind (P:=fun r=>r=.inl ()) (Ok.loop (fun g s=>∃i:Nat,s=i∧i+g=n.toNat) n.toNat ⟨0,rfl,by omega⟩ fun g s hs=>?_) fun r hr=>?_
    · obtain⟨i,i1,i2⟩:=hs
      subst i1
      refine Ok.ite (fun hi=>?_) (fun _=>Ok.mk rfl)
      have hi:(i:Int)<n:=of_decide_eq_true hi
      obtain⟨b1,b2⟩:=hb.bd i (by omega) hi
      have hlen:=hb.len
      refine Ok.lv (by omega) (by omega) ?_
      rw[decide_eq_false (show ¬lv L i< -1099511627776 by omega)]
      refine Ok.opt (P:=fun r=>r=lv L i) (fun _=>⟨_,Qcx (by omega) (by omega),rfl⟩) fun r hr=>?_
      have:=hr rfl
      subst this
      rw[decide_eq_false (show ¬lv L i>1099511627776 by omega),if_neg (by decide)]
      exact Ok.mk ⟨g - 1,by omega,i+1,by rw[w64 (by omega) (by omega)];rfl,by omega⟩
    · subst hr
      dsimp only
      refine Ok.bind (P:=fun r=>r=.inl ()) (Ok.loop (fun g s=>∃i:Nat,s=i∧i+g=l.length) l.length ⟨0,rfl,by omega⟩ fun g s hs=>?_) fun r hr=>?_
      · obtain⟨i,i1,i2⟩:=hs
        subst i1
        refine Ok.ite (fun hi=>?_) (fun _=>Ok.mk rfl)
        have hi:(i:Int)<l.length:=of_decide_eq_true hi
        have hkl:i<l.length:=by omega
        have hkf:i<f.length:=by rw[hfl];exact hkl
        have hke:l[i]?=some l[i]:=List.getElem?_eq_getElem hkl
        have hy:f[i]?=some f[i]:=List.getElem?_eq_getElem hkf
        have hE:=h.edges l[i] (List.getElem_mem hkl)
        obtain⟨y0,y1⟩:=hb.within.2 i _ _ hke hy
        obtain⟨s1,s2⟩:=hb.slack i _ _ hke hy
        generalize l[i]=e at hke hE y0 y1 s1 s2
        generalize f[i]=y at hy y0 y1 s1 s2
        have t0:=hE.t0;have t1:=hE.t1;have f0:=hE.f0;have f1:=hE.f1;have c0:=hE.c0;have c1:=hE.c1
        have ec:=Qg6 hke
        have hyk:idx f (i:Int)=some y:=by rw[QbE,hy]
        have bT:=hb.bd e.To t0 t1
        have bF:=hb.bd e.From f0 f1
        have hlen:=hb.len
        rw[ec,hyk]
        simp only[Option.bind_some]
        have q1:decide (y<(cv e).Lo)=false:=decide_eq_false (show ¬y<e.Lo by omega)
        have q2:decide (y>(cv e).Hi)=false:=decide_eq_false (show ¬y>e.Hi by omega)
        rw[q1,show ((false==false)=true) from rfl,Qbl,Qbl]
        simp only[Option.bind_some]
        rw[q2,if_neg (by decide)]
        have eF:idx L (cv e).From=some (lv L e.From):=Qcx f0 (show e.From<L.length by omega)
        have eT:idx L (cv e).To=some (lv L e.To):=Qcx t0 (show e.To<L.length by omega)
        rw[eF,eT]
        simp only[Option.bind_some]
        have ew:IntKind.i64.wrap (IntKind.i64.wrap ((cv e).Cost+lv L e.From) - lv L e.To)=e.Cost+lv L e.From - lv L e.To:=by
          show IntKind.i64.wrap (IntKind.i64.wrap (e.Cost+lv L e.From) - lv L e.To)=_
          rw[w64 (n:=e.Cost+lv L e.From) (by omega) (by omega),w64 (by omega) (by omega)]
        rw[ew]
        have q3:(decide (y<(cv e).Hi)&&decide (e.Cost+lv L e.From - lv L e.To<0))=false:=by
          show (decide (y<e.Hi)&&_)=false
          by_cases q:y<e.Hi
          · have:=s1 q
            rw[decide_eq_false (show ¬e.Cost+lv L e.From - lv L e.To<0 by omega),Bool.and_false]
          · rw[decide_eq_false q,Bool.false_and]
        have q4:(decide (y>(cv e).Lo)&&decide (e.Cost+lv L e.From - lv L e.To>0))=false:=by
          show (decide (y>e.Lo)&&_)=false
          by_cases q:e.Lo<y
          · have:=s2 q
            rw[decide_eq_false (show ¬e.Cost+lv L e.From - lv L e.To>0 by omega),Bool.and_false]
          · rw[decide_eq_false (show ¬y>e.Lo from q),Bool.false_and]
        rw[q3,show ((false==false)=true) from rfl,Qbl,Qbl]
        simp only[Option.bind_some]
        rw[q4,if_neg (by decide)]
        exact Ok.mk ⟨g - 1,by omega,i+1,by rw[w64 (by omega) (by omega)];rfl,by omega⟩
      · subst hr
        dsimp only
        refine (QfC h hb.within).bind fun E hE=>?_
        obtain⟨E1,E2⟩:=hE
        refine Ok.bind (P:=fun r=>r=.inl ()) (Ok.loop (fun g s=>∃i:Nat,s=i∧i+g=n.toNat) n.toNat ⟨0,rfl,by omega⟩ fun g s hs=>?_) fun r hr=>by subst hr;exact Ok.mk rfl
        obtain⟨i,i1,i2⟩:=hs
        subst i1
        refine Ok.ite (fun hi=>?_) (fun _=>Ok.mk rfl)
        have hi:(i:Int)<n:=of_decide_eq_true hi
        refine Ok.lv (by omega) (by omega) ?_
        rw[E2 i (by omega) hi,hb.circ i (by omega) hi,if_neg (by decide)]
        exact Ok.mk ⟨g - 1,by omega,i+1,by rw[w64 (by omega) (by omega)];rfl,by omega⟩
  obtain⟨r,hr,rfl⟩:=key
  exact hr

/-- What is shown. -/
theorem Qh9 {old out:List Int} {t:Nat} {lo hi:Int} {L:List Int} (ha:Qd0 old t lo (min hi old.length)) (ho:out.length=old.length) (hb:Best ((t:Int)+2) (net old t lo (min hi old.length)) (Qaq old out t) L):
    Qby old t lo hi out ⟨Qaq old out t,L⟩=some true:=by
  have h1:=ha.nl;have h2:=ha.tl
  unfold Qby
  rw[QfB h2 h1,Qg5 h2 h1 ho]
  simp only[Option.bind_some]
  rw[Qb7 (by rw[QdO];omega)]
  simp only[Option.bind_some]
  have ew:IntKind.i64.wrap ((t:Int)+2)=(t:Int)+2:=w64 (by omega) (by omega)
  rw[ew,Qh8 (Qf5 ha) hb]
  rfl

end Go.Proofs.Ytbggdodepjhliaa

/- Edit: what can be reached from a node. No condition. -/
import Derived.Test.YtbggdodepjhliaaEdD
namespace Go.Proofs.Ytbggdodepjhliaa
open Go.Sim

/-- How many nodes have no entry. -/
def Qaf (m:List (Int×Qc)) (n:Nat):Int:=psum (fun i=>one (mget m (i:Int)=none)) n
def In (m:List (Int×Qc)) (f v:Int):Prop:=v=f∨∃a,mget m v=some a

structure RI (x:Qg) (f:Int) (m:List (Int×Qc)) (τ:Int→Int) (t:Int):Prop where
  ent:∀v a,mget m v=some a→a∈x.arcs∧a.to=v∧v≠f∧1≤room x a∧In m f a.from'∧τ a.from'<τ v
  le:∀v,τ v≤t
  ge:∀v,0≤τ v

theorem QcW (m:List (Int×Qc)) (n:Nat):0≤Qaf m n:=Qb1 fun _ _=>(Qed _).1
theorem QgX {m:List (Int×Qc)} {n:Nat} {v:Int} (a:Qc) (h0:0≤v) (h1:v<n) (hv:mget m v=none):Qaf (mset m v a) n+1≤Qaf m n:=by
  have:Qaf (mset m v a) n<Qaf m n:=by
    refine QbP v.toNat (fun i _=>?_) (by omega) ?_
    · unfold one
      by_cases e:mget m (i:Int)=none
      · rw[if_pos e];split<;>omega
      · rw[if_neg e,if_neg]
        · exact Int.le_refl _
        · rw[QT];split
          · exact fun q=>by cases q
          · exact e
    · have e:(v.toNat:Int)=v:=by omega
      rw[e]
      unfold one
      rw[if_pos hv,if_neg]
      · decide
      · rw[QT,if_pos rfl];exact fun q=>by cases q
  omega

theorem RI.put {x:Qg} {f:Int} {m:List (Int×Qc)} {τ:Int→Int} {t:Int} (h:RI x f m τ t) {a:Qc} (ha:a∈x.arcs) (hr:1≤room x a) (hf:a.to≠f) (hn:mget m a.to=none) (hi:In m f a.from'):
    RI x f (mset m a.to a) (fun v=>if v=a.to then t+1 else τ v) (t+1):=by
  have hin:∀v,In m f v→In (mset m a.to a) f v∧v≠a.to:=fun v hv=>by
    rcases hv with rfl | ⟨b,hb⟩
    · exact⟨.inl rfl,fun e=>hf e.symm⟩
    · have:v≠a.to:=fun e=>by rw[e,hn] at hb;cases hb
      exact⟨.inr ⟨b,by rw[QT,if_neg this];exact hb⟩,this⟩
  refine⟨fun v b hb=>?_,fun v=>?_,fun v=>?_⟩
  · rw[QT] at hb
    by_cases e:v=a.to
    · rw[if_pos e] at hb
      obtain rfl:=Option.some.inj hb
      subst e
      have:=hin _ hi
      have:=h.le a.from'
      exact⟨ha,rfl,hf,hr,(hin _ hi).1,by rw[if_pos rfl,if_neg (hin _ hi).2];omega⟩
    · rw[if_neg e] at hb
      obtain⟨g1,g2,g3,g4,g5,g6⟩:=h.ent v b hb
      exact⟨g1,g2,g3,g4,(hin _ g5).1,by rw[if_neg e,if_neg (hin _ g5).2];exact g6⟩
  · have:=h.le v
    split<;>omega
  · have:=h.le v;have:=h.ge v
    split<;>omega

/-- What reach gives. -/
def Qdv (x:Qg) (f:Int) (m:List (Int×Qc)):Prop:=
  (∃τ t,RI x f m τ t)∧∀a∈x.arcs,1≤room x a→In m f a.from'→In m f a.to

theorem Qhz {x:Qg} (hx:Qac x) {f:Int} (f0:0≤f) (f1:f<x.n):Ok (QaL x f) (fun r=>∃m,r=some m∧Qdv x f m):=by
  have hn0:=hx.n0;have hn1:=hx.n1;have hal:=hx.alen
  unfold QaL
  refine Ok.bind (P:=fun r=>∃m,r=some m∧Qdv x f m) (Ok.loop (fun g s=>∃m τ t,s.2=some m∧RI x f m τ t∧(2 * Qaf m x.n.toNat+s.1.length)=g∧(∀v∈s.1,In m f v)∧s.1.length+Qaf m x.n.toNat≤65∧
      ∀a∈x.arcs,1≤room x a→In m f a.from'→a.from'∈s.1∨In m f a.to) (2 * Qaf [] x.n.toNat+1).toNat ⟨[],fun _=>0,0,rfl,⟨fun v a h=>by simp[mget] at h,fun v=>Int.le_refl _,fun v=>Int.le_refl _⟩,?_,fun v hv=>.inl (List.mem_singleton.1 hv),?_,fun a ha hr hi=>?_⟩ fun g s hs=>?_) fun r hr=>Ok.mk hr
  · have:=QcW [] x.n.toNat
    simp;omega
  · have:Qaf [] x.n.toNat≤x.n.toNat:=by
      unfold Qaf
      generalize x.n.toNat=n
      induction n with
      | zero=>exact Int.le_refl _
      | succ n ih=>
        have:=(Qed (mget ([]:List (Int×Qc)) (n:Int)=none)).2
        show psum _ n+_≤_
        push_cast
        omega
    simp;omega
  · rcases hi with hi | ⟨b,hb⟩
    · exact .inl (by simp[hi])
    · simp[mget] at hb
  · obtain⟨m,τ,t,h1,h2,h3,h4,h5,h6⟩:=hs
    obtain⟨q,mm⟩:=s
    dsimp only at h1 h3 h4 h5 h6 ⊢
    subst h1
    refine Ok.ite (fun hq=>?_) (fun hq=>?_)
    · have hq:(q.length:Int)>0:=of_decide_eq_true hq
      cases q with
      | nil=>simp at hq
      | cons v q=>
        have e1:idx (v::q) (0:Int)=some v:=rfl
        have e2:sub (v::q) (1:Int) (((v::q).length:Nat):Int)=some q:=by
          unfold sub
          rw[if_pos ⟨by decide,by simp;omega,Int.le_refl _⟩]
          simp
        rw[e1,e2]
        simp only[Option.bind_some]
        have hv:=h4 v (by simp)
        have hfb:=QcW m x.n.toNat
        simp only[List.length_cons] at h3 h5
        refine Ok.bind (P:=fun p=>∃m' τ t,p.1=some m'∧RI x f m' τ t∧2 * Qaf m' x.n.toNat+p.2.length≤2 * Qaf m x.n.toNat+q.length∧(∀v∈p.2,In m' f v)∧p.2.length+Qaf m' x.n.toNat≤64∧
            ∀a∈x.arcs,1≤room x a→In m' f a.from'→a.from'∈p.2∨In m' f a.to) (Ok.loop (fun g s=>∃(i:Nat) (m':List (Int×Qc)) (τ:Int→Int) (t:Int),s.1=i∧i+g=x.arcs.length∧s.2.1=some m'∧RI x f m' τ t∧2 * Qaf m' x.n.toNat+s.2.2.length≤2 * Qaf m x.n.toNat+q.length∧(∀v∈s.2.2,In m' f v)∧s.2.2.length+Qaf m' x.n.toNat≤64∧In m' f v∧
            ∀(j:Nat) a,x.arcs[j]?=some a→1≤room x a→In m' f a.from'→a.from'∈s.2.2∨In m' f a.to∨(a.from'=v∧i≤j)) x.arcs.length ⟨0,m,τ,t,rfl,by omega,rfl,h2,Int.le_refl _,fun u hu=>h4 u (by simp[hu]),by dsimp only;omega,hv,fun j a hj hr hi=>?_⟩ fun g' s hs=>?_) fun p hp=>?_
        · rcases h6 a (List.mem_of_getElem? hj) hr hi with h | h
          · rcases List.mem_cons.1 h with h | h
            · exact .inr (.inr ⟨h,by omega⟩)
            · exact .inl h
          · exact .inr (.inl h)
        · obtain⟨i,m',τ',t',i1,i2,i3,i4,i5,i6,i7,i8,i9⟩:=hs
          obtain⟨si,mm',q'⟩:=s
          dsimp only at i1 i3 i5 i6 i7 i9 ⊢
          subst i1;subst i3
          refine Ok.ite (fun hi=>?_) (fun hi=>?_)
          · have hi:(i:Int)<x.arcs.length:=of_decide_eq_true hi
            refine Ok.bind (P:=fun p=>∃m' τ t,p.1=some m'∧RI x f m' τ t∧2 * Qaf m' x.n.toNat+p.2.length≤2 * Qaf m x.n.toNat+q.length∧(∀v∈p.2,In m' f v)∧p.2.length+Qaf m' x.n.toNat≤64∧In m' f v∧
              ∀(j:Nat) a,x.arcs[j]?=some a→1≤room x a→In m' f a.from'→a.from'∈p.2∨In m' f a.to∨(a.from'=v∧i+1≤j)) ?_ fun p hp=>?_
            · refine Ok.idx (by omega) hi fun a ha hai=>?_
              have hai:x.arcs[i]?=some a:=by simpa using hai
              obtain⟨hA,af0,af1,at0,at1,hne,_,_⟩:=Qav hx ha
              have keep:(1≤room x a→a.from'=v→In m' f a.to)→Ok (some ((some m':Mp Qc),q')) (fun p=>∃m' τ t,p.1=some m'∧RI x f m' τ t∧2 * Qaf m' x.n.toNat+p.2.length≤2 * Qaf m x.n.toNat+q.length∧(∀v∈p.2,In m' f v)∧p.2.length+Qaf m' x.n.toNat≤64∧In m' f v∧
                ∀(j:Nat) a,x.arcs[j]?=some a→1≤room x a→In m' f a.from'→a.from'∈p.2∨In m' f a.to∨(a.from'=v∧i+1≤j)):=fun hk=>by
                refine Ok.mk ⟨m',τ',t',rfl,i4,i5,i6,i7,i8,fun j b hj hr hin=>?_⟩
                rcases i9 j b hj hr hin with h | h | ⟨h,hij⟩
                · exact .inl h
                · exact .inr (.inl h)
                · by_cases e:i=j
                  · subst e
                    rw[hai] at hj
                    obtain rfl:=Option.some.inj hj
                    exact .inr (.inl (hk hr h))
                  · exact .inr (.inr ⟨h,by omega⟩)
              refine Ok.opt (P:=fun r=>r=room x a) (fun _=>⟨_,(Qds hx hA).1,rfl⟩) fun r hr=>?_
              refine Ok.ite (fun hc=>keep fun hr1 hfv=>?_) (fun hc=>?_)
              · simp only[Bool.or_eq_true,bne_iff_ne,beq_iff_eq] at hc
                rcases hc with ((hc | hc) | hc) | hc
                · exact absurd hfv hc
                · exact .inl hc
                · obtain⟨b,hb⟩:=Option.isSome_iff_exists.1 hc
                  exact .inr ⟨b,hb⟩
                · by_cases hcc:(((a.from' !=v)||(a.to==f))||(QC (some m') a.to).isSome)=true
                  · simp only[Bool.or_eq_true,bne_iff_ne,beq_iff_eq] at hcc
                    rcases hcc with (hc | hc) | hc
                    · exact absurd hfv hc
                    · exact .inl hc
                    · obtain⟨b,hb⟩:=Option.isSome_iff_exists.1 hc
                      exact .inr ⟨b,hb⟩
                  · have:=hr (by simp only[Bool.not_eq_true] at hcc;rw[hcc];rfl)
                    omega
              · simp only[Bool.or_eq_false_iff,bne_eq_false_iff_eq,beq_eq_false_iff_ne] at hc
                obtain⟨⟨⟨c1,c2⟩,c3⟩,c4⟩:=hc
                have hrr:=hr (by rw[show ((a.from' !=v)=false) from by simpa using c1,show ((a.to==f)=false) from by simpa using c2,c3];rfl)
                obtain⟨_,r0,r1⟩:=Qds hx hA
                have hnone:mget m' a.to=none:=by
                  cases hq:mget m' a.to with
                  | none=>rfl
                  | some b=>have:QC (some m') a.to=some b:=hq;rw[this] at c3;cases c3
                have hput:=i4.put ha (by omega) c2 hnone (by rw[c1];exact i8)
                have hfr:=QgX (n:=x.n.toNat) a at0 (by omega) hnone
                have hfb':=QcW (mset m' a.to a) x.n.toNat
                have hin:∀u,In m' f u→In (mset m' a.to a) f u:=fun u hu=>by
                  rcases hu with rfl | ⟨b,hb⟩
                  · exact .inl rfl
                  · refine .inr ?_
                    rw[QT]
                    split
                    · exact⟨_,rfl⟩
                    · exact⟨b,hb⟩
                have hto:In (mset m' a.to a) f a.to:=.inr ⟨a,by rw[QT,if_pos rfl]⟩
                show Ok ((some (some (mset m' a.to a))).bind _) _
                simp only[Option.bind_some]
                refine Ok.rm (by simp;omega) (Ok.mk ⟨mset m' a.to a,_,_,rfl,hput,by simp;omega,fun u hu=>?_,by simp;omega,hin v i8,fun j b hj hr hb=>?_⟩)
                · rcases List.mem_append.1 hu with hu | hu
                  · exact hin u (i6 u hu)
                  · rw[List.mem_singleton.1 hu];exact hto
                · by_cases eb:b.from'=a.to
                  · exact .inl (by simp[eb])
                  · have hb':In m' f b.from':=by
                      rcases hb with hb | ⟨d,hd⟩
                      · exact .inl hb
                      · rw[QT,if_neg eb] at hd;exact .inr ⟨d,hd⟩
                    rcases i9 j b hj hr hb' with h | h | ⟨h,hij⟩
                    · exact .inl (by simp[h])
                    · exact .inr (.inl (hin _ h))
                    · by_cases e:i=j
                      · subst e
                        rw[hai] at hj
                        obtain rfl:=Option.some.inj hj
                        exact .inr (.inl hto)
                      · exact .inr (.inr ⟨h,by omega⟩)
            · obtain⟨m'',τ'',t'',k1,k2,k3,k4,k5,k6,k7⟩:=hp
              exact Ok.mk ⟨g' - 1,by omega,i+1,m'',τ'',t'',by rw[w64 (by omega) (by omega)];rfl,by omega,k1,k2,k3,k4,k5,k6,k7⟩
          · have hi:¬(i:Int)<x.arcs.length:=of_decide_eq_false hi
            refine Ok.mk ⟨m',τ',t',rfl,i4,i5,i6,i7,fun a ha hr hin=>?_⟩
            obtain⟨j,hj,hja⟩:=List.mem_iff_getElem.1 ha
            rcases i9 j a (by rw[List.getElem?_eq_getElem hj,hja]) hr hin with h | h | ⟨_,hij⟩
            · exact .inl h
            · exact .inr h
            · omega
        · obtain⟨m',τ',t',k1,k2,k3,k4,k5,k6⟩:=hp
          have hfb':=QcW m' x.n.toNat
          refine Ok.mk ⟨(2 * Qaf m' x.n.toNat+p.2.length).toNat,by omega,m',τ',t',k1,k2,by dsimp only;omega,k4,by dsimp only;omega,k6⟩
    · have hq:¬(q.length:Int)>0:=of_decide_eq_false hq
      have:q=[]:=by cases q with | nil=>rfl | cons=>simp at hq
      subst this
      refine Ok.mk ⟨m,rfl,⟨τ,t,h2⟩,fun a ha hr hi=>?_⟩
      rcases h6 a ha hr hi with h | h
      · cases h
      · exact h

end Go.Proofs.Ytbggdodepjhliaa

/- Edit: the levels of a net: they hold for all arcs, or there is a cycle of negative cost. No condition. -/
import Derived.Test.YtbggdodepjhliaaEdA
namespace Go.Proofs.Ytbggdodepjhliaa
open Go.Sim

def lv (L:List Int) (v:Int):Int:=(L[v.toNat]?).getD 0
theorem Qbx {L:List Int} {v:Int} {y:Int} (h0:0≤v) (h:v<L.length) (u:Int) (hu:0≤u):lv (L.set v.toNat y) u=if u=v then y else lv L u:=by
  unfold lv
  rw[List.getElem?_set]
  by_cases e:u=v
  · subst e
    rw[if_pos rfl,if_pos (by omega),if_pos rfl];rfl
  · rw[if_neg (by omega),if_neg e]
theorem Ok.lv {β:Type} {Q:β→Prop} {L:List Int} {v:Int} (h0:0≤v) (h:v<L.length) {f:Int→Option β} (k:Ok (f (Proofs.Ytbggdodepjhliaa.lv L v)) Q):Ok ((idx L v).bind f) Q:=by
  have hlt:v.toNat<L.length:=by omega
  rw[Qch _ h0,List.getElem?_eq_getElem hlt]
  unfold Proofs.Ytbggdodepjhliaa.lv at k
  rw[List.getElem?_eq_getElem hlt] at k
  exact k
theorem Qeb {L:List Int} {v:Int} (h0:0≤v) (h:v<L.length):idx L v=some (lv L v):=by
  have hlt:v.toNat<L.length:=by omega
  rw[Qch _ h0]
  unfold lv
  rw[List.getElem?_eq_getElem hlt];rfl
theorem Qav {x:Qg} (hx:Qac x) {a:Qc} (ha:a∈x.arcs):Qcb x.l a∧0≤a.from'∧a.from'<x.n∧0≤a.to∧a.to<x.n∧a.from'≠a.to∧-1000≤a.cost∧a.cost≤1000:=by
  have h:=hx.arcs a ha
  obtain⟨e,he,ho⟩:=h.ex
  have hE:=hx.edges e (List.mem_of_getElem? he)
  obtain⟨h1,h2,h3,h4,_,_,_,h5,h6,h7⟩:=hE
  refine⟨h,?_⟩
  rcases ho with⟨_,e1,e2,e3⟩ | ⟨_,e1,e2,e3⟩<;>rw[e1,e2,e3]<;>refine⟨by omega,by omega,by omega,by omega,?_,by omega,by omega⟩
  · exact h7
  · exact fun e=>h7 e.symm

structure LI (x:Qg) (k t:Int) (L:List Int) (m:List (Int×Qc)) (τ ρ:Int→Int):Prop where
  len:(L.length:Int)=x.n
  bd:∀v,0≤v→v<x.n→-1000 * t≤lv L v∧lv L v≤0
  t0:0≤t
  ent:∀v a,mget m v=some a→a∈x.arcs∧a.to=v∧1≤room x a∧1≤τ v∧lv L a.from'+a.cost≤lv L v∧(τ v<τ a.from'→lv L a.from'+a.cost<lv L v)∧ρ v - 1≤ρ a.from'
  has:∀v,0≤ρ v→∃a,mget m v=some a
  one:∀v w,τ v=τ w→1≤τ v→v=w
  le:∀v,τ v≤t
  rk:∀v,ρ v≤k
  old:∀a∈x.arcs,1≤room x a→ρ a.from'<k - 1→lv L a.to≤lv L a.from'+a.cost

/-- An update. -/
theorem LI.put {x:Qg} (hx:Qac x) {k t:Int} {L:List Int} {m:List (Int×Qc)} {τ ρ:Int→Int} (h:LI x k t L m τ ρ) {a:Qc} (ha:a∈x.arcs) (hr:1≤room x a) (hl:lv L a.from'+a.cost<lv L a.to):
    LI x k (t+1) (L.set a.to.toNat (lv L a.from'+a.cost)) (mset m a.to a) (fun v=>if v=a.to then t+1 else τ v) (fun v=>if v=a.to then k else ρ v):=by
  obtain⟨hA,f0,f1,t0,t1,hne,c0,c1⟩:=Qav hx ha
  have hlen:=h.len
  have hs:∀u,0≤u→lv (L.set a.to.toNat (lv L a.from'+a.cost)) u=if u=a.to then lv L a.from'+a.cost else lv L u:=fun u hu=>Qbx t0 (by omega) u hu
  have hle:∀u,0≤u→lv (L.set a.to.toNat (lv L a.from'+a.cost)) u≤lv L u:=fun u hu=>by
    rw[hs u hu];split
    · rename_i e;rw[e];omega
    · omega
  refine⟨by rw[List.length_set];exact hlen,fun v h0 h1=>?_,by have:=h.t0;omega,fun v b hb=>?_,fun v hv=>?_,fun v w hvw hv=>?_,fun v=>?_,fun v=>?_,fun b hb hbr hbk=>?_⟩
  · rw[hs v h0]
    have b1:=h.bd v h0 h1
    have b2:=h.bd a.from' f0 f1
    have b3:=h.bd a.to t0 t1
    split<;>omega
  · rw[QT] at hb
    by_cases e:v=a.to
    · rw[if_pos e] at hb
      obtain rfl:=Option.some.inj hb
      subst e
      rw[hs _ f0,hs _ t0]
      rw[if_pos rfl,if_neg hne]
      simp only[if_true,if_neg hne]
      have:=h.le a.from'
      have h0:=h.t0
      refine⟨ha,trivial,hr,by omega,Int.le_refl _,fun hh=>absurd hh (by omega),?_⟩
      by_cases hk:ρ a.from'<k - 1
      · have:=h.old a ha hr hk;omega
      · omega
    · rw[if_neg e] at hb
      obtain⟨g1,g2,g3,g4,g5,g6,g7⟩:=h.ent v b hb
      obtain⟨hB,fb0,fb1,tb0,tb1,hbne,_,_⟩:=Qav hx g1
      have v0:0≤v:=by omega
      have e1:=hle b.from' fb0
      have e2:=hs v v0
      rw[if_neg e] at e2
      have e3:=hs b.from' fb0
      have hvk:=h.rk v
      simp only[if_neg e]
      refine⟨g1,g2,g3,g4,by omega,fun hh=>?_,?_⟩
      · by_cases eb:b.from'=a.to
        · rw[if_pos eb] at e3
          rw[eb] at g5
          omega
        · rw[if_neg eb] at hh e3
          have:=g6 hh
          omega
      · by_cases eb:b.from'=a.to
        · rw[if_pos eb];omega
        · rw[if_neg eb];exact g7
  · rw[QT]
    by_cases e:v=a.to
    · rw[if_pos e];exact⟨_,rfl⟩
    · rw[if_neg e]
      rw[if_neg e] at hv
      exact h.has v hv
  · have q1:=h.le v;have q2:=h.le w
    by_cases e:v=a.to<;>by_cases e2:w=a.to
    · rw[e,e2]
    · rw[if_pos e,if_neg e2] at hvw;omega
    · rw[if_neg e,if_pos e2] at hvw;omega
    · rw[if_neg e,if_neg e2] at hvw
      rw[if_neg e] at hv
      exact h.one v w hvw hv
  · have:=h.le v
    split<;>omega
  · have:=h.rk v
    split<;>omega
  · obtain⟨_,fb0,_,tb0,_⟩:=Qav hx hb
    have e1:=hle b.to tb0
    have e3:=hs b.from' fb0
    by_cases eb:b.from'=a.to
    · rw[if_pos eb] at hbk;omega
    · rw[if_neg eb] at hbk e3
      have:=h.old b hb hbr hbk
      omega

/-- What one round has looked at. -/
def LQ (x:Qg) (k:Int) (L:List Int) (ρ:Int→Int) (i:Nat):Prop:=
  ∀j a,j<i→x.arcs[j]?=some a→1≤room x a→ρ a.from'<k→lv L a.to≤lv L a.from'+a.cost

/-- What a round makes. -/
def LR (x:Qg) (k:Int) (last:Int) (L:List Int) (m:Mp Qc) (t1:Int) (i:Nat):Prop:=
  ∃t m' τ ρ,m=some m'∧LI x k t L m' τ ρ∧LQ x k L ρ i∧t≤t1+i∧-1≤last∧(last<0→∀v,ρ v<k)∧(0≤last→last<x.n∧ρ last=k)

theorem Qhv {x:Qg} (hx:Qac x) {k t:Int} {L:List Int} {m:List (Int×Qc)} {τ ρ:Int→Int} (h:LI x k t L m τ ρ) (hk:∀v,ρ v<k) (ht:t≤1000000):
    Ok (Ql (fun (s181:Int×Int×List Int×Mp Qc)=>((if (decide (s181.1<((x).arcs.length:Int)))=true then (idx (x).arcs s181.1).bind fun t26=>(Q3 x t26).bind fun t30=>(opt ((decide (t30>(0:Int)))==true) (idx s181.2.2.1 (t26).from') default).bind fun t36=>(opt ((decide (t30>(0:Int)))==true) (idx s181.2.2.1 (t26).to) default).bind fun t44=>((if ((decide (t30>(0:Int)))&&(decide ((IntKind.i64.wrap (t36+(t26).cost))<t44)))=true then (idx s181.2.2.1 (t26).from').bind fun t54=>(setAt s181.2.2.1 (t26).to (IntKind.i64.wrap (t54+(t26).cost))).bind fun t59s=>(mput s181.2.2.2 (t26).to t26).bind fun m254=>(some ((t26).to,t59s,m254)) else (some (s181.2.1,s181.2.2.1,s181.2.2.2)))).bind fun (p247:Int×List Int×Mp Qc)=>(some (.inl ((IntKind.i64.wrap (s181.1+(1:Int))),p247.1,p247.2.1,p247.2.2))) else (some (.inr (s181.2.1,s181.2.2.1,s181.2.2.2)))):Option ((Int×Int×List Int×Mp Qc)⊕((Int×List Int×Mp Qc))))) ((0:Int),(-1:Int),L,some m))
      (fun r=>LR x k r.1 r.2.1 r.2.2 t x.arcs.length):=by
  have hal:=hx.alen
  refine Ok.loop (fun g s=>∃i:Nat,s.1=i∧i+g=x.arcs.length∧LR x k s.2.1 s.2.2.1 s.2.2.2 t i) x.arcs.length ⟨0,rfl,by omega,t,m,τ,ρ,rfl,h,fun j a hj=>absurd hj (by omega),by omega,Int.le_refl _,fun _=>hk,fun hh=>absurd (show (0:Int)≤-1 from hh) (by decide)⟩ fun g s hs=>?_
  obtain⟨i,h1,h2,t',m',τ',ρ',h3,h4,h5,h6,h7,h8,h9⟩:=hs
  obtain⟨si,last,L',mm⟩:=s
  dsimp only at h1 h3 h4 h5 h7 h8 h9 ⊢
  subst h1;subst h3
  refine Ok.ite (fun hlt=>?_) (fun hlt=>?_)
  · have hlt:(i:Int)<x.arcs.length:=of_decide_eq_true hlt
    refine Ok.idx (by omega) hlt fun a ha hai=>?_
    obtain⟨hA,f0,f1,t0,t1,hne,c0,c1⟩:=Qav hx ha
    have hlen:=h4.len
    have b1:=h4.bd a.from' f0 f1
    have b2:=h4.bd a.to t0 t1
    have hi:x.arcs[i]?=some a:=by simpa using hai
    refine Ok.room hx hA fun r0 r1=>?_
    have noup:(1≤room x a→¬(lv L' a.from'+a.cost<lv L' a.to))→LR x k last L' (some m') t (i+1):=fun hn=>
      ⟨t',m',τ',ρ',rfl,h4,fun j b hj hb hbr hbk=>by
        by_cases e:j=i
        · subst e
          rw[hi] at hb
          obtain rfl:=Option.some.inj hb
          have:=hn hbr;omega
        · exact h5 j b (by omega) hb hbr hbk,by omega,h7,h8,h9⟩
    by_cases hr:1≤room x a
    · have hr':room x a>0:=by omega
      simp only[hr',decide_true,beq_self_eq_true,Qfk,Bool.true_and]
      refine Ok.lv f0 (by omega) (Ok.lv t0 (by omega) ?_)
      rw[w64 (by omega) (by omega)]
      refine Ok.bind (P:=fun p=>LR x k p.1 p.2.1 p.2.2 t (i+1)) (Ok.ite (fun hu=>?_) (fun hu=>?_)) fun p hp=>Ok.mk ⟨g - 1,by omega,i+1,by rw[w64 (by omega) (by omega)];rfl,by omega,hp⟩
      · have hu:lv L' a.from'+a.cost<lv L' a.to:=of_decide_eq_true hu
        refine Ok.lv f0 (by omega) ?_
        rw[w64 (by omega) (by omega)]
        refine Ok.setAt t0 (by omega) ?_
        refine Ok.mk ⟨t'+1,mset m' a.to a,_,_,rfl,h4.put hx ha hr hu,fun j b hj hb hbr hbk=>?_,by omega,by omega,fun hh=>absurd hh (by omega),fun _=>⟨t1,by simp⟩⟩
        obtain⟨_,fb0,_,tb0,_⟩:=Qav hx (List.mem_of_getElem? hb)
        dsimp only at hbk ⊢
        rw[Qbx t0 (by omega) _ fb0,Qbx t0 (by omega) _ tb0]
        by_cases eb:b.from'=a.to
        · rw[if_pos eb] at hbk;omega
        · rw[if_neg eb] at hbk
          rw[if_neg eb]
          by_cases e:j=i
          · subst e
            rw[hi] at hb
            obtain rfl:=Option.some.inj hb
            rw[if_pos rfl];exact Int.le_refl _
          · have:=h5 j b (by omega) hb hbr hbk
            split
            · rename_i et;rw[et] at this;omega
            · exact this
      · have hu:¬(lv L' a.from'+a.cost<lv L' a.to):=of_decide_eq_false hu
        exact Ok.mk (noup fun _=>hu)
    · have hr':¬room x a>0:=by omega
      simp only[hr',decide_false,show ((false==true)=false) from rfl,QgL,Bool.false_and,Option.bind_some]
      rw[if_neg (by decide)]
      exact Ok.mk ⟨g - 1,by omega,i+1,by rw[w64 (by omega) (by omega)];rfl,by omega,noup fun hh=>absurd hh hr⟩
  · have hlt:¬(i:Int)<x.arcs.length:=of_decide_eq_false hlt
    have:i=x.arcs.length:=by omega
    subst this
    exact Ok.mk ⟨t',m',τ',ρ',rfl,h4,h5,h6,h7,h8,h9⟩

end Go.Proofs.Ytbggdodepjhliaa

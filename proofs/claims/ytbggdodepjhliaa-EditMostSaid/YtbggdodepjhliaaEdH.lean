/- Edit: flow.Least as a whole. No condition. -/
import Derived.Test.YtbggdodepjhliaaEdG
namespace Go.Proofs.Ytbggdodepjhliaa
open Go.Sim

theorem Qgh {l:List Qb} {f:Qb→Option Bool} (hl:l.length≤1000000000) (h:∀e∈l,f e=some false):QR l f=some (-1):=by
  have key:Ok (QR l f) (fun r=>r=-1):=by
    unfold QR
    refine Ok.bind (P:=fun r=>r=.inl ()) (Ok.loop (fun g s=>∃i:Nat,s=i∧i+g=l.length) l.length ⟨0,rfl,by omega⟩ fun g s hs=>?_) fun r hr=>by subst hr;exact Ok.mk rfl
    obtain⟨i,h1,h2⟩:=hs
    subst h1
    refine Ok.ite (fun hi=>?_) (fun _=>Ok.mk rfl)
    have hi:(i:Int)<l.length:=of_decide_eq_true hi
    refine Ok.idx (by omega) hi fun e he _=>?_
    rw[h e he]
    exact Ok.mk ⟨g - 1,by omega,i+1,by rw[w64 (by omega) (by omega)];rfl,by omega⟩
  obtain⟨r,hr,rfl⟩:=key
  exact hr
theorem QeU {l:List Qb} {f:Qb→Option Bool} (hl:l.length≤1000000000) (h:∀e∈l,f e=some false):QX l f=some false:=by
  unfold QX
  rw[Qgh hl h];rfl

structure Qeg (n:Int) (l:List Qb):Prop where
  n0:0≤n
  n1:n≤64
  len:l.length≤256
  edges:∀e∈l,QcN n e
theorem QhB {n:Int} {l:List Qb} (h:Qeg n l):Qbv n l=some 0:=by
  have h0:=h.n0;have h1:=h.n1;have h2:=h.len
  have hq:∀e∈l,Qa6 e (fun x0=>Qag x0 n)=some false:=fun e he=>by
    have hE:=h.edges e he
    have a1:=hE.f0;have a2:=hE.f1;have a3:=hE.t0;have a4:=hE.t1;have a5:=hE.lo;have a6:=hE.le;have a7:=hE.hi;have a8:=hE.c0;have a9:=hE.c1
    have q:∀v,0≤v→v<n→Qag v n=some true:=fun v v0 v1=>by
      unfold Qag
      rw[decide_eq_true (show v≥0 from v0),decide_eq_true v1];rfl
    unfold Qa6
    dsimp only
    rw[q _ a1 a2]
    simp only[Option.bind_some]
    rw[show ((!true)==false)=true from rfl,Qfk,q _ a3 a4]
    simp only[Option.bind_some]
    rw[decide_eq_false (show ¬e.Lo<0 by omega),decide_eq_false (show ¬e.Lo>e.Hi by omega),decide_eq_false (show ¬e.Hi>1000 by omega),decide_eq_false (show ¬e.Cost< -1000 by omega),decide_eq_false (show ¬e.Cost>1000 by omega)]
    rfl
  unfold Qbv
  rw[decide_eq_false (show ¬n>64 by omega),decide_eq_false (show ¬(l.length:Int)>256 by omega),decide_eq_false (show ¬n<0 by omega),QeU (by omega) hq]
  rfl

theorem QhW {n:Int} {l:List Qb} (h:Qeg n l):Ok (QbL n l) (fun x=>x.n=n∧x.l=l∧Qac x∧Full l x.arcs):=by
  have h0:=h.n0;have h1:=h.n1;have h2:=h.len
  unfold QbL
  refine Ok.mk' (by omega) (by omega) ?_
  refine Ok.bind (P:=fun p=>p.1.length=2 * l.length∧(∀a∈p.1,Qcb l a)∧Full l p.1∧Q5 l p.2) (Ok.loop (fun g s=>∃i:Nat,s.1=i∧i+g=l.length∧s.2.1.length=2 * i∧(∀a∈s.2.1,Qcb l a)∧(∀(k:Nat) e,k<i→l[k]?=some e→∀fw:Bool,∃a∈s.2.1,a.edge=k∧a.forward=(if fw=true then 1 else -1))∧s.2.2.length=l.length∧∀(k:Nat) e,k<i→l[k]?=some e→s.2.2[k]?=some e.Lo) l.length ⟨0,rfl,by omega,rfl,fun a ha=>(by cases ha),fun k e hk=>absurd hk (by omega),by simp,fun k e hk=>absurd hk (by omega)⟩ fun g s hs=>?_) fun p hp=>?_
  · obtain⟨i,i1,i2,i3,i4,i5,i6,i7⟩:=hs
    obtain⟨si,ar,fl⟩:=s
    dsimp only at i1 i3 i4 i5 i6 i7 ⊢
    subst i1
    refine Ok.ite (fun hi=>?_) (fun hi=>?_)
    · have hi:(i:Int)<l.length:=of_decide_eq_true hi
      refine Ok.idx (by omega) hi fun e he hei=>?_
      have hei:l[i]?=some e:=by simpa using hei
      have hE:=h.edges e he
      have c0:=hE.c0;have c1:=hE.c1
      refine Ok.setAt (by omega) (by omega) (Ok.rm (by simp;omega) ?_)
      rw[w64 (n:=0 - e.Cost) (by omega) (by omega)]
      refine Ok.mk ⟨g - 1,by omega,i+1,by rw[w64 (by omega) (by omega)];rfl,by omega,by simp;omega,fun a ha=>?_,fun k e' hk hke fw=>?_,by rw[List.length_set];exact i6,fun k e' hk hke=>?_⟩
      · rcases List.mem_append.1 ha with ha | ha
        · exact i4 a ha
        · have hx:l[((i:Int)).toNat]?=some e:=by simpa using hei
          rcases List.mem_cons.1 ha with rfl | ha
          · exact⟨by dsimp only;omega,e,hx,.inl ⟨rfl,rfl,rfl,rfl⟩⟩
          · rw[List.mem_singleton.1 ha]
            exact⟨by dsimp only;omega,e,hx,.inr ⟨rfl,rfl,rfl,by dsimp only;omega⟩⟩
      · by_cases ek:k=i
        · subst ek
          cases fw with
          | true=>exact⟨_,List.mem_append_right _ (List.mem_cons_self ..),rfl,rfl⟩
          | false=>exact⟨_,List.mem_append_right _ (List.mem_cons_of_mem _ (List.mem_cons_self ..)),rfl,rfl⟩
        · obtain⟨a,ha,hb⟩:=i5 k e' (by omega) hke fw
          exact⟨a,List.mem_append_left _ ha,hb⟩
      · dsimp only
        rw[List.getElem?_set]
        by_cases ek:i=k
        · subst ek
          rw[hei] at hke
          obtain rfl:=Option.some.inj hke
          rw[if_pos (by omega),if_pos (by omega)]
        · rw[if_neg (by omega)]
          exact i7 k e' (by omega) hke
    · have hi:¬(i:Int)<l.length:=of_decide_eq_false hi
      have:i=l.length:=by omega
      subst this
      refine Ok.mk ⟨i3,i4,fun k e hk fw=>i5 k e (List.getElem?_eq_some_iff.1 hk).1 hk fw,i6,fun k e y hk hy=>?_⟩
      have:=i7 k e (List.getElem?_eq_some_iff.1 hk).1 hk
      dsimp only at hy
      rw[this] at hy
      obtain rfl:=Option.some.inj hy
      exact⟨Int.le_refl _,(h.edges e (List.mem_of_getElem? hk)).le⟩
  · obtain⟨p1,p2,p3,p4⟩:=hp
    exact Ok.mk ⟨rfl,rfl,⟨h0,h1,h2,h.edges,p4,p2,by dsimp only;omega⟩,p3⟩

theorem QfR (φ:Qb→Int):∀{l:List Qb} {f:List Int},(∀e∈l,-1000≤φ e∧φ e≤1000)→(∀y∈f,0≤y∧y≤1000)→-1000000 * (l.length:Int)≤lin φ l f
  | [],_,_,_=>by simp[lin]
  | e::l,[],_,_=>by simp[lin];omega
  | e::l,y::f,h1,h2=>by
    have ih:=QfR φ (l:=l) (f:=f) (fun e he=>h1 e (by simp[he])) (fun y hy=>h2 y (by simp[hy]))
    obtain⟨a1,a2⟩:=h1 e (by simp)
    obtain⟨b1,b2⟩:=h2 y (by simp)
    have:-1000 * y≤φ e * y:=Int.mul_le_mul_of_nonneg_right a1 b1
    show _≤φ e * y+lin φ l f
    simp only[List.length_cons]
    push_cast
    omega

/-- A flow and levels that show that its cost is the least. -/
structure Best (n:Int) (l:List Qb) (f L:List Int):Prop where
  within:Q5 l f
  circ:Circ l n f
  len:(L.length:Int)=n
  bd:∀v,0≤v→v<n→-100000000≤lv L v∧lv L v≤0
  slack:∀(k:Nat) e y,l[k]?=some e→f[k]?=some y→(y<e.Hi→lv L e.To≤lv L e.From+e.Cost)∧(e.Lo<y→lv L e.From≤lv L e.To - e.Cost)

theorem Qgi {n:Int} {l:List Qb} (h:∀e∈l,QcN n e) {f:List Int} (hf:Q5 l f):∀y∈f,0≤y∧y≤1000:=fun y hy=>by
  obtain⟨k,hk,rfl⟩:=List.mem_iff_getElem.1 hy
  have hkl:k<l.length:=by rw[←hf.1];exact hk
  obtain⟨a,b⟩:=hf.2 k _ _ (List.getElem?_eq_getElem hkl) (List.getElem?_eq_getElem hk)
  have hE:=h _ (List.getElem_mem hkl)
  have:=hE.lo;have:=hE.hi
  omega

theorem QhC {n:Int} {l:List Qb} (h:Qeg n l) {g:List Int} (hg:Q5 l g) (hc:Circ l n g):
    Ok (Qbw n l) (fun r=>r.2.2=0∧Best n l r.1.Flow r.1.Level):=by
  unfold Qbw
  rw[QhB h]
  simp only[Option.bind_some]
  rw[if_neg (by decide)]
  refine (QhW h).bind fun x hx=>?_
  obtain⟨x1,x2,x3,x4⟩:=hx
  subst x1;subst x2
  refine (Qgg x3 x4 hg hc).bind fun r hr=>?_
  obtain⟨r1,f,r2,r3,r4⟩:=hr
  rw[r1,r2]
  simp only[List.isEmpty_nil,Bool.not_true]
  rw[if_neg (by decide)]
  have net:∀f,Q5 x.l f→Qac (Qg.mk x.n x.l f x.arcs):=fun f h=>⟨x3.n0,x3.n1,x3.l1,x3.edges,h,x3.arcs,x3.alen⟩
  have low:∀f,Q5 x.l f→-256000000≤lin (·.Cost) x.l f:=fun f hf=>by
    have:=QfR (·.Cost) (l:=x.l) (f:=f) (fun e he=>⟨(x3.edges e he).c0,(x3.edges e he).c1⟩) (Qgi x3.edges hf)
    have:=x3.l1
    omega
  refine Ok.bind (P:=fun p=>p.2.1=0∧Best x.n x.l p.2.2.Flow p.2.2.Level) (Ok.loop (fun k s=>s.1=x.n∧s.2.1=x.l∧s.2.2.1=x.arcs∧Q5 x.l s.2.2.2∧Circ x.l x.n s.2.2.2∧lin (·.Cost) x.l s.2.2.2+256000000=k) (lin (·.Cost) x.l f+256000000).toNat ⟨rfl,rfl,rfl,r3,r4,by have:=low f r3;dsimp only;omega⟩ fun k s hs=>?_) fun p hp=>Ok.mk hp
  obtain⟨h1,h2,h3,h4,h5,h6⟩:=hs
  obtain⟨n',l',ar,f'⟩:=s
  dsimp only at h1 h2 h3 h4 h5 h6 ⊢
  subst h1;subst h2;subst h3
  have hy:=net f' h4
  refine (QgO hy).bind fun r hr=>?_
  rcases hr with⟨hn,hl⟩ | ⟨m,hm,hcy⟩
  · rw[hn]
    refine Ok.mk ⟨rfl,h4,h5,hl.1,hl.2.1,fun k e y hk hy'=>?_⟩
    have hroom:∀a:Qc,a.edge=k→room (Qg.mk x.n x.l f' x.arcs) a=if a.forward>0 then e.Hi - y else y - e.Lo:=fun a ha=>by
      have:a.edge.toNat=k:=by omega
      have hy':f'[k]?=some y:=hy'
      unfold room
      rw[this]
      dsimp only
      rw[hk,hy']
    have hend:∀a,a∈x.arcs→a.edge=k→(a.forward=1→a.from'=e.From∧a.to=e.To∧a.cost=e.Cost)∧(a.forward=-1→a.from'=e.To∧a.to=e.From∧a.cost=-e.Cost):=fun a ha hae=>by
      obtain⟨e',he',ho⟩:=(x3.arcs a ha).ex
      have:a.edge.toNat=k:=by omega
      rw[this,hk] at he'
      obtain rfl:=Option.some.inj he'
      rcases ho with⟨q1,q2,q3,q4⟩ | ⟨q1,q2,q3,q4⟩
      · exact⟨fun _=>⟨q2,q3,q4⟩,fun q=>(by rw[q1] at q;cases q)⟩
      · exact⟨fun q=>(by rw[q1] at q;cases q),fun _=>⟨q2,q3,q4⟩⟩
    refine⟨fun hlt=>?_,fun hlt=>?_⟩
    · obtain⟨a,ha,hae,haf⟩:=x4 k e hk true
      rw[if_pos rfl] at haf
      obtain⟨q1,q2,q3⟩:=(hend a ha hae).1 haf
      have:=hl.2.2 a ha (by rw[hroom a hae,haf,if_pos (by decide)];omega)
      rw[q1,q2,q3] at this
      exact this
    · obtain⟨a,ha,hae,haf⟩:=x4 k e hk false
      rw[if_neg (by decide)] at haf
      obtain⟨q1,q2,q3⟩:=(hend a ha hae).2 haf
      have:=hl.2.2 a ha (by rw[hroom a hae,haf,if_neg (by decide)];omega)
      rw[q1,q2,q3] at this
      dsimp only
      omega
  · rw[hm]
    obtain⟨w,c,p,hch,w0,wp,hneg⟩:=hcy
    simp only[Option.isNone_some]
    rw[if_neg (by decide)]
    have hpush:=QfN hy hch (most:=1000) (by decide)
    rw[w0,wp] at hpush
    refine hpush.bind fun q hq=>?_
    obtain⟨q1,q2,q3⟩:=hq
    have hw:=q3.flow
    have hcost:=Qfy hch q3
    dsimp only at hcost hw
    have hcirc:Circ x.l x.n q.2.flow:=fun v v0 v1=>by
      have:=QeL hch q3 v
      rw[w0,wp] at this
      have h5v:=h5 v v0 v1
      dsimp only at this
      rw[this,h5v,Int.sub_self];omega
    have hl2:=low q.2.flow hw
    have hmul:q.1 * psum (fun i=>(c i).cost) p≤-1:=by
      have:q.1 * psum (fun i=>(c i).cost) p≤q.1 * (-1):=Int.mul_le_mul_of_nonneg_left hneg (by omega)
      omega
    exact Ok.mk ⟨(lin (·.Cost) x.l q.2.flow+256000000).toNat,by omega,q3.n,q3.l,q3.arcs,hw,hcirc,by dsimp only;omega⟩

end Go.Proofs.Ytbggdodepjhliaa

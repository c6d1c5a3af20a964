/- Edit: sums over edges, rooms, and a push along a chain of entries. No condition. -/
import Derived.Test.YtbggdodepjhliaaGenAll
import Derived.Test.YtbggdodepjhliaaOk
namespace Go.Proofs.Ytbggdodepjhliaa
open Go.Sim

theorem QgM:∀(n:Nat) (g:Nat→Nat),(∀i,i≤n→g i<n)→∃a b,a<b∧b≤n∧g a=g b
  | 0,g,h=>absurd (h 0 (Nat.le_refl _)) (by omega)
  | n+1,g,h=>by
    by_cases he:∃a,a≤n∧g a=g (n+1)
    · obtain⟨a,h1,h2⟩:=he
      exact⟨a,n+1,by omega,Nat.le_refl _,h2⟩
    · have hne:∀a,a≤n→g a≠g (n+1):=fun a ha e=>he ⟨a,ha,e⟩
      obtain⟨a,b,h1,h2,h3⟩:=QgM n (fun i=>if g i=n then g (n+1) else g i) (fun i hi=>by
        have h1:=h i (by omega)
        have h2:=h (n+1) (Nat.le_refl _)
        have h3:=hne i hi
        split<;>omega)
      refine⟨a,b,h1,by omega,?_⟩
      have ha:=hne a (by omega)
      have hb:=hne b h2
      split at h3<;>split at h3<;>omega

/-- A sum over the edges. -/
def lin (φ:Qb→Int):List Qb→List Int→Int
  | e::l,y::f=>φ e * y+lin φ l f
  | _,_=>0
theorem QfM (φ:Qb→Int):∀(l:List Qb) (f:List Int) (k:Nat) (y:Int) (e:Qb) (z:Int),l[k]?=some e→f[k]?=some z→lin φ l (f.set k y)=lin φ l f+φ e * (y - z)
  | [],f,k,y,e,z,h,_=>by simp at h
  | a::l,[],k,y,e,z,_,h=>by simp at h
  | a::l,b::f,0,y,e,z,h1,h2=>by
    simp at h1 h2
    subst h1;subst h2
    simp only[List.set_cons_zero,lin]
    rw[Int.mul_sub];omega
  | a::l,b::f,k+1,y,e,z,h1,h2=>by
    simp only[List.getElem?_cons_succ] at h1 h2
    simp only[List.set_cons_succ,lin]
    rw[QfM φ l f k y e z h1 h2];omega

/-- The sum of the first n. -/
def psum (g:Nat→Int):Nat→Int
  | 0=>0
  | n+1=>psum g n+g n

structure QcN (n:Int) (e:Qb):Prop where
  f0:0≤e.From
  f1:e.From<n
  t0:0≤e.To
  t1:e.To<n
  lo:0≤e.Lo
  le:e.Lo≤e.Hi
  hi:e.Hi≤1000
  c0:-1000≤e.Cost
  c1:e.Cost≤1000
  ne:e.From≠e.To
/-- What an arc is. -/
structure Qcb (l:List Qb) (a:Qc):Prop where
  e0:0≤a.edge
  ex:∃e,l[a.edge.toNat]?=some e∧((a.forward=1∧a.from'=e.From∧a.to=e.To∧a.cost=e.Cost)∨(a.forward=-1∧a.from'=e.To∧a.to=e.From∧a.cost=-e.Cost))
/-- A flow within the bounds. -/
def Q5 (l:List Qb) (f:List Int):Prop:=f.length=l.length∧∀(k:Nat) (e:Qb) (y:Int),l[k]?=some e→f[k]?=some y→e.Lo≤y∧y≤e.Hi
structure Qac (x:Qg):Prop where
  n0:0≤x.n
  n1:x.n≤64
  l1:x.l.length≤256
  edges:∀e∈x.l,QcN x.n e
  flow:Q5 x.l x.flow
  arcs:∀a∈x.arcs,Qcb x.l a
  alen:x.arcs.length≤512

/-- How much an arc can take. -/
def room (x:Qg) (a:Qc):Int:=match x.l[a.edge.toNat]?,x.flow[a.edge.toNat]? with
  | some e,some y=>if a.forward>0 then e.Hi - y else y - e.Lo
  | _,_=>0
theorem Qeu {x:Qg} (h:Qac x) {k:Nat} {e:Qb} (he:x.l[k]?=some e):∃y,x.flow[k]?=some y∧e.Lo≤y∧y≤e.Hi∧QcN x.n e∧k<x.l.length∧k<x.flow.length:=by
  have hk:k<x.l.length:=(List.getElem?_eq_some_iff.1 he).1
  have hf:k<x.flow.length:=by rw[h.flow.1];exact hk
  have hy:=List.getElem?_eq_getElem hf
  obtain⟨h1,h2⟩:=h.flow.2 k e _ he hy
  exact⟨_,hy,h1,h2,h.edges e (List.mem_of_getElem? he),hk,hf⟩
theorem Qds {x:Qg} (h:Qac x) {a:Qc} (ha:Qcb x.l a):Q3 x a=some (room x a)∧0≤room x a∧room x a≤1000:=by
  obtain⟨e,he,ho⟩:=ha.ex
  obtain⟨y,hy,y0,y1,hE,hk,hf⟩:=Qeu h he
  have h0:=hE.lo;have h1:=hE.hi;have he0:=ha.e0
  unfold Q3 room
  rw[he,hy]
  dsimp only
  rw[Qch _ he0,Qch _ he0,he,hy]
  simp only[Option.bind_some]
  rcases ho with⟨hfw,_⟩ | ⟨hfw,_⟩
  · rw[hfw,if_pos (by decide),if_pos (by decide),w64 (by omega) (by omega)]
    exact⟨rfl,by omega,by omega⟩
  · rw[hfw,if_neg (by decide),if_neg (by decide),w64 (by omega) (by omega)]
    exact⟨rfl,by omega,by omega⟩
theorem Ok.room {β:Type} {Q:β→Prop} {x:Qg} (h:Qac x) {a:Qc} (ha:Qcb x.l a) {f:Int→Option β} (k:0≤Proofs.Ytbggdodepjhliaa.room x a→Proofs.Ytbggdodepjhliaa.room x a≤1000→Ok (f (Proofs.Ytbggdodepjhliaa.room x a)) Q):Ok ((Q3 x a).bind f) Q:=by
  obtain⟨h1,h2,h3⟩:=Qds h ha
  rw[h1]
  exact k h2 h3

/-- The entries along a chain of nodes. -/
structure Qcu (x:Qg) (m:Mp Qc) (w:Nat→Int) (c:Nat→Qc) (p:Nat):Prop where
  pos:1≤p
  look:∀i,i<p→QC m (w i)=some (c i)
  arc:∀i,i<p→Qcb x.l (c i)
  to:∀i,i<p→(c i).to=w i
  from':∀i,i<p→(c i).from'=w (i+1)
  room:∀i,i<p→1≤room x (c i)
  stop:∀i,0<i→i<p→w i≠w p
  edge:∀i j,i<j→j<p→(c i).edge≠(c j).edge

theorem QdN (a b:Int):imin a b≤a:=by unfold imin;split<;>omega
theorem QdO (a b:Int):imin a b≤b:=by unfold imin;split<;>omega
theorem Qev {a b c:Int} (h:c≤a) (h2:c≤b):c≤imin a b:=by unfold imin;split<;>omega

theorem Qht {x:Qg} (hx:Qac x) {m:Mp Qc} {w:Nat→Int} {c:Nat→Qc} {p:Nat} (h:Qcu x m w c p) {most:Int} (hm:1≤most):
    Ok (Qah most x (w 0) m (w p)) (fun r=>r.2=x∧1≤r.1∧r.1≤most∧∀i,i<p→r.1≤room x (c i)):=by
  unfold Qah
  refine Ok.bind (P:=fun r=>(r.2.1=x.n∧r.2.2.1=x.l∧r.2.2.2.1=x.arcs∧r.2.2.2.2=x.flow)∧1≤r.1∧r.1≤most∧∀i,i<p→r.1≤room x (c i)) (Ok.loop (fun k s=>∃i,i+k=p∧i<p∧s.1=w i∧1≤s.2.1∧s.2.1≤most∧(∀j,j<i→s.2.1≤room x (c j))∧s.2.2.1=x.n∧s.2.2.2.1=x.l∧s.2.2.2.2.1=x.arcs∧s.2.2.2.2.2=x.flow) p ⟨0,by omega,h.pos,rfl,hm,Int.le_refl _,fun j hj=>absurd hj (by omega),rfl,rfl,rfl,rfl⟩ fun k s hs=>?_) fun r hr=>Ok.mk ?_
  · obtain⟨i,h1,h2,h3,h4,h5,h6,h7,h8,h9,h10⟩:=hs
    obtain⟨v,mo,n,l,ar,fl⟩:=s
    dsimp only at h3 h4 h5 h6 h7 h8 h9 h10 ⊢
    subst h3;subst h7;subst h8;subst h9;subst h10
    rw[h.look i h2,Option.getD_some]
    refine Ok.bind (P:=fun r=>r.2=x∧r.1=imin mo (room x (c i))) ?_ fun r hr=>?_
    · unfold Qa2
      refine Ok.room hx (h.arc i h2) fun r0 r1=>Ok.mk ⟨rfl,rfl⟩
    · obtain⟨hr1,hr2⟩:=hr
      rw[hr1,hr2,h.from' i h2]
      have g1:=QdN mo (room x (c i));have g2:=QdO mo (room x (c i));have g3:=Qev h4 (h.room i h2)
      have g4:∀j,j<i+1→imin mo (room x (c i))≤room x (c j):=fun j hj=>by
        by_cases e:j=i
        · rw[e];exact g2
        · exact Int.le_trans g1 (h6 j (by omega))
      by_cases hp:i+1=p
      · rw[hp,if_pos (by simp)]
        refine Ok.mk ⟨⟨rfl,rfl,rfl,rfl⟩,g3,by dsimp only;omega,fun j hj=>g4 j (by omega)⟩
      · have hne:=h.stop (i+1) (by omega) (by omega)
        rw[if_neg (by simpa using hne)]
        exact Ok.mk ⟨k - 1,by omega,i+1,by omega,by omega,rfl,g3,by dsimp only;omega,g4,rfl,rfl,rfl,rfl⟩
  · obtain⟨⟨a1,a2,a3,a4⟩,h2,h3,h4⟩:=hr
    refine⟨?_,h2,h3,h4⟩
    rw[a1,a2,a3,a4]

/-- What a push adds to a sum. -/
def Qb0 (l:List Qb) (c:Nat→Qc) (φ:Qb→Int) (i:Nat):Int:=match l[(c i).edge.toNat]? with | some e=>(c i).forward * φ e | none=>0
/-- What a push along a chain does. -/
structure Qcq (x x':Qg) (c:Nat→Qc) (p:Nat) (m:Int):Prop where
  n:x'.n=x.n
  l:x'.l=x.l
  arcs:x'.arcs=x.arcs
  flow:Q5 x.l x'.flow
  lin:∀φ:Qb→Int,lin φ x.l x'.flow=lin φ x.l x.flow+m * psum (Qb0 x.l c φ) p

theorem Qhu {x:Qg} (hx:Qac x) {mp:Mp Qc} {w:Nat→Int} {c:Nat→Qc} {p:Nat} (h:Qcu x mp w c p) {m:Int} (hm:1≤m) (hr:∀i,i<p→m≤room x (c i)):
    Ok (Qai x m (w 0) mp (w p)) (fun r=>r.2=m∧Qcq x r.1 c p m):=by
  unfold Qai
  let g:(Qb→Int)→Nat→Int:=fun φ=>Qb0 x.l c φ
  let I:Nat→List Int→Prop:=fun i f=>Q5 x.l f∧(∀φ,lin φ x.l f=lin φ x.l x.flow+m * psum (g φ) i)∧∀j,i≤j→j<p→f[(c j).edge.toNat]?=x.flow[(c j).edge.toNat]?
  refine Ok.bind (P:=fun r=>r.1=x.n∧r.2.1=x.l∧r.2.2.1=x.arcs∧I p r.2.2.2.1∧r.2.2.2.2=m) (Ok.loop (fun k s=>∃i,i+k=p∧i<p∧s.1=w i∧s.2.1=x.n∧s.2.2.1=x.l∧s.2.2.2.1=x.arcs∧I i s.2.2.2.2.1∧s.2.2.2.2.2=m) p ⟨0,by omega,h.pos,rfl,rfl,rfl,rfl,⟨hx.flow,fun φ=>by simp[psum],fun _ _ _=>rfl⟩,rfl⟩ fun k s hs=>?_) fun r hr=>Ok.mk ?_
  · obtain⟨i,h1,h2,h3,h4,h5,h6,⟨i1,i2,i3⟩,h8⟩:=hs
    obtain⟨v,n,l,ar,fl,mo⟩:=s
    dsimp only at h3 h4 h5 h6 i1 i2 i3 h8 ⊢
    subst h3;subst h4;subst h5;subst h6;subst h8
    rw[h.look i h2,Option.getD_some]
    have ha:=h.arc i h2
    have he0:=ha.e0
    have hrm:=hr i h2
    obtain⟨e,he,ho⟩:=ha.ex
    obtain⟨y,hy,y0,y1,hE,hk,hf⟩:=Qeu hx he
    have e0:=hE.lo;have e1:=hE.hi
    have hfl:fl[(c i).edge.toNat]?=some y:=by rw[i3 i (Nat.le_refl _) h2,hy]
    have hfk:(c i).edge.toNat<fl.length:=(List.getElem?_eq_some_iff.1 hfl).1
    have hm1:mo≤1000:=Int.le_trans hrm (Qds hx ha).2.2
    have hnew:e.Lo≤y+(c i).forward * mo∧y+(c i).forward * mo≤e.Hi∧IntKind.i64.wrap (y+IntKind.i64.wrap ((c i).forward * mo))=y+(c i).forward * mo:=by
      unfold room at hrm
      rw[he,hy] at hrm
      dsimp only at hrm
      rcases ho with⟨hfw,_⟩ | ⟨hfw,_⟩
      · rw[hfw,if_pos (by decide)] at hrm
        rw[hfw,Int.one_mul,w64 (n:=mo) (by omega) (by omega),w64 (by omega) (by omega)]
        exact⟨by omega,by omega,rfl⟩
      · rw[hfw,if_neg (by decide)] at hrm
        rw[hfw,show (-1:Int) * mo=-mo by omega,w64 (n:=-mo) (by omega) (by omega),w64 (by omega) (by omega)]
        exact⟨by omega,by omega,rfl⟩
    refine Ok.bind (P:=fun r=>r=(Qg.mk x.n x.l (fl.set (c i).edge.toNat (y+(c i).forward * mo)) x.arcs,mo)) ?_ fun r hr=>?_
    · unfold Qa3
      dsimp only
      rw[Qch _ he0,hfl]
      simp only[Option.bind_some]
      rw[hnew.2.2]
      refine Ok.setAt he0 (by omega) (Ok.mk rfl)
    · subst hr
      dsimp only
      rw[h.from' i h2]
      have hI:I (i+1) (fl.set (c i).edge.toNat (y+(c i).forward * mo)):=by
        refine⟨⟨by rw[List.length_set];exact i1.1,fun k' e' y' hk' hy'=>?_⟩,fun φ=>?_,fun j hj hjp=>?_⟩
        · rw[List.getElem?_set] at hy'
          split at hy'
          · rename_i ek
            subst ek
            obtain rfl:=Option.some.inj hy'
            rw[he] at hk'
            obtain rfl:=Option.some.inj hk'
            exact⟨hnew.1,hnew.2.1⟩
          · exact i1.2 k' e' y' hk' hy'
        · rw[QfM φ x.l fl _ _ e y he hfl,i2 φ]
          show _=_+mo * (psum (g φ) i+g φ i)
          have:g φ i=(c i).forward * φ e:=by show Qb0 x.l c φ i=_;unfold Qb0;rw[he]
          rw[this,Int.mul_add,show y+(c i).forward * mo - y=(c i).forward * mo by omega,show φ e * ((c i).forward * mo)=mo * ((c i).forward * φ e) by rw[Int.mul_comm,Int.mul_comm ((c i).forward) mo,Int.mul_assoc]]
          omega
        · rw[List.getElem?_set_ne,i3 j (by omega) hjp]
          intro e'
          have:=h.edge i j (by omega) hjp
          have:=(h.arc j hjp).e0
          omega
      by_cases hp:i+1=p
      · rw[hp,if_pos (by simp)]
        rw[hp] at hI
        exact Ok.mk ⟨rfl,rfl,rfl,hI,rfl⟩
      · have hne:=h.stop (i+1) (by omega) (by omega)
        rw[if_neg (by simpa using hne)]
        exact Ok.mk ⟨k - 1,by omega,i+1,by omega,by omega,rfl,rfl,rfl,rfl,hI,rfl⟩
  · obtain⟨a1,a2,a3,⟨i1,i2,_⟩,a5⟩:=hr
    exact⟨a5,a1,a2,a3,i1,i2⟩

theorem QfN {x:Qg} (hx:Qac x) {mp:Mp Qc} {w:Nat→Int} {c:Nat→Qc} {p:Nat} (h:Qcu x mp w c p) {most:Int} (hm:1≤most):
    Ok (Qaz x mp (w p) (w 0) most) (fun r=>1≤r.1∧r.1≤most∧Qcq x r.2 c p r.1):=by
  unfold Qaz
  refine (Qht hx h hm).bind fun r hr=>?_
  obtain⟨h1,h2,h3,h4⟩:=hr
  obtain⟨mo,x'⟩:=r
  dsimp only at h1 h2 h3 h4 ⊢
  subst h1
  refine (Qhu hx h h2 h4).bind fun r hr=>?_
  obtain⟨g1,g2⟩:=hr
  obtain⟨x',m⟩:=r
  dsimp only at g1 g2 ⊢
  subst g1
  exact Ok.mk ⟨h2,h3,g2⟩

end Go.Proofs.Ytbggdodepjhliaa

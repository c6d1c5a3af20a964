/- Edit: the network of targets, and that the levels of a least flow hold for the flow of the greedy choice. No condition. -/
import Derived.Test.YtbggdodepjhliaaEdM
import Derived.Test.YtbggdodepjhliaaEdH
namespace Go.Proofs.Ytbggdodepjhliaa
open Go.Sim

section
variable (old:List Int) (to:Nat) (lo hi:Int)
def e0 (j:Nat):Qb:=⟨to,j,0,kc old j,0⟩
def e1 (j:Nat):Qb:=⟨to,j,0,old.length,1⟩
def e2 (j:Nat):Qb:=⟨j,(to:Int)+1,lo,hi,0⟩
def eb:Qb:=⟨(to:Int)+1,to,old.length,old.length,0⟩
def netN:Nat→List Qb
  | 0=>[]
  | n+1=>netN n++[e0 old to n,e1 old to n,e2 to lo hi n]
def net:List Qb:=netN old to lo hi to++[eb old to]
variable {old to lo hi}
theorem Qbi:∀n,(netN old to lo hi n).length=3 * n
  | 0=>rfl
  | n+1=>by
    show (netN old to lo hi n++_).length=_
    rw[List.length_append,Qbi n];simp;omega
theorem Qci:(net old to lo hi).length=3 * to+1:=by unfold net;rw[List.length_append,Qbi];rfl
theorem QfS:∀(n j:Nat),j<n→(netN old to lo hi n)[3 * j]?=some (e0 old to j)∧(netN old to lo hi n)[3 * j+1]?=some (e1 old to j)∧(netN old to lo hi n)[3 * j+2]?=some (e2 to lo hi j)
  | 0,j,h=>absurd h (by omega)
  | n+1,j,h=>by
    have hl:=Qbi (old:=old) (to:=to) (lo:=lo) (hi:=hi) n
    show (netN old to lo hi n++_)[3 * j]?=_∧(netN old to lo hi n++_)[3 * j+1]?=_∧(netN old to lo hi n++_)[3 * j+2]?=_
    by_cases e:j=n
    · subst e
      rw[List.getElem?_append_right (by omega),List.getElem?_append_right (by omega),List.getElem?_append_right (by omega),hl]
      rw[show 3 * j - 3 * j=0 by omega,show 3 * j+1 - 3 * j=1 by omega,show 3 * j+2 - 3 * j=2 by omega]
      exact⟨rfl,rfl,rfl⟩
    · rw[List.getElem?_append_left (by omega),List.getElem?_append_left (by omega),List.getElem?_append_left (by omega)]
      exact QfS n j (by omega)
theorem Qdi {j:Nat} (h:j<to):(net old to lo hi)[3 * j]?=some (e0 old to j)∧(net old to lo hi)[3 * j+1]?=some (e1 old to j)∧(net old to lo hi)[3 * j+2]?=some (e2 to lo hi j):=by
  have hl:=Qbi (old:=old) (to:=to) (lo:=lo) (hi:=hi) to
  unfold net
  rw[List.getElem?_append_left (by omega),List.getElem?_append_left (by omega),List.getElem?_append_left (by omega)]
  exact QfS to j h
theorem QdR:(net old to lo hi)[3 * to]?=some (eb old to):=by
  unfold net
  rw[List.getElem?_append_right (by rw[Qbi];exact Nat.le_refl _),Qbi,Nat.sub_self];rfl
/-- Every edge is one of these. -/
theorem QeM {i:Nat} {e:Qb} (h:(net old to lo hi)[i]?=some e):(∃j,j<to∧((i=3 * j∧e=e0 old to j)∨(i=3 * j+1∧e=e1 old to j)∨(i=3 * j+2∧e=e2 to lo hi j)))∨(i=3 * to∧e=eb old to):=by
  have hlt:=(List.getElem?_eq_some_iff.1 h).1
  rw[Qci] at hlt
  by_cases e':i=3 * to
  · subst e'
    rw[QdR] at h
    exact .inr ⟨rfl,(Option.some.inj h).symm⟩
  · refine .inl ⟨i / 3,by omega,?_⟩
    obtain⟨h0,h1,h2⟩:=Qdi (old:=old) (to:=to) (lo:=lo) (hi:=hi) (j:=i / 3) (by omega)
    have:i % 3=0∨i % 3=1∨i % 3=2:=by omega
    rcases this with q | q | q
    · rw[show i=3 * (i / 3) by omega,h0] at h
      exact .inl ⟨by omega,(Option.some.inj h).symm⟩
    · rw[show i=3 * (i / 3)+1 by omega,h1] at h
      exact .inr (.inl ⟨by omega,(Option.some.inj h).symm⟩)
    · rw[show i=3 * (i / 3)+2 by omega,h2] at h
      exact .inr (.inr ⟨by omega,(Option.some.inj h).symm⟩)

theorem QbM {f:List Int} {i:Nat} (h:i<f.length):f[i]?=some (uf f i):=by
  unfold uf lv
  rw[Int.toNat_natCast,List.getElem?_eq_getElem h];rfl
/-- A sum over the network. -/
theorem QfT (φ:Qb→Int) {f:List Int} (hf:f.length=3 * to+1):
    lin φ (net old to lo hi) f=psum (fun j=>φ (e0 old to j) * uf f (3 * j)+φ (e1 old to j) * uf f (3 * j+1)+φ (e2 to lo hi j) * uf f (3 * j+2)) to+φ (eb old to) * uf f (3 * to):=by
  have key:∀n,n≤to→lin φ ((net old to lo hi).take (3 * n)) (f.take (3 * n))=psum (fun j=>φ (e0 old to j) * uf f (3 * j)+φ (e1 old to j) * uf f (3 * j+1)+φ (e2 to lo hi j) * uf f (3 * j+2)) n:=fun n=>by
    induction n with
    | zero=>intro _;rfl
    | succ n ih=>
      intro hn
      obtain⟨h0,h1,h2⟩:=Qdi (old:=old) (to:=to) (lo:=lo) (hi:=hi) (j:=n) (by omega)
      rw[show 3 * (n+1)=3 * n+1+1+1 by omega,QbR φ (k:=3 * n+1+1) h2 (QbM (by omega)),QbR φ (k:=3 * n+1) h1 (QbM (by omega)),QbR φ (k:=3 * n) h0 (QbM (by omega)),ih (by omega)]
      show psum (fun j=>φ (e0 old to j) * uf f (3 * j)+φ (e1 old to j) * uf f (3 * j+1)+φ (e2 to lo hi j) * uf f (3 * j+2)) n+φ (e0 old to n) * uf f (3 * n)+φ (e1 old to n) * uf f (3 * n+1)+φ (e2 to lo hi n) * uf f (3 * n+2)=psum _ n+(φ (e0 old to n) * uf f (3 * n)+φ (e1 old to n) * uf f (3 * n+1)+φ (e2 to lo hi n) * uf f (3 * n+2))
      omega
  have h:=QbR φ (QdR (old:=old) (to:=to) (lo:=lo) (hi:=hi)) (QbM (f:=f) (i:=3 * to) (by omega))
  rw[key to (Nat.le_refl _),List.take_of_length_le (by rw[Qci];exact Nat.le_refl _),List.take_of_length_le (by omega)] at h
  exact h

/-- The numbers are in range. -/
structure QeB (old:List Int) (to:Nat) (lo hi:Int):Prop where
  nl:old.length≤512
  tl:to≤62
  b:0<to→0≤lo∧lo≤hi∧hi≤old.length
theorem QgY (h:QeB old to lo hi):Qeg ((to:Int)+2) (net old to lo hi):=by
  have h1:=h.nl;have h2:=h.tl
  refine⟨by omega,by omega,by rw[Qci];omega,fun e he=>?_⟩
  obtain⟨i,hi',rfl⟩:=List.mem_iff_getElem.1 he
  have:=List.getElem?_eq_getElem hi'
  generalize (net old to lo hi)[i]=e at *
  rcases QeM this with⟨j,hj,⟨_,rfl⟩ | ⟨_,rfl⟩ | ⟨_,rfl⟩⟩ | ⟨_,rfl⟩
  · have:=Qae old j
    refine⟨?_,?_,?_,?_,?_,?_,?_,?_,?_,?_⟩<;>(show _)<;>(unfold e0;dsimp only;omega)
  · refine⟨?_,?_,?_,?_,?_,?_,?_,?_,?_,?_⟩<;>(unfold e1;dsimp only;omega)
  · obtain⟨b1,b2,b3⟩:=h.b (by omega)
    refine⟨?_,?_,?_,?_,?_,?_,?_,?_,?_,?_⟩<;>(unfold e2;dsimp only;omega)
  · refine⟨?_,?_,?_,?_,?_,?_,?_,?_,?_,?_⟩<;>(unfold eb;dsimp only;omega)

/-- A flow through the network, said by its parts. -/
structure Qa0 (old:List Int) (to:Nat) (lo hi:Int) (f:List Int):Prop where
  len:f.length=3 * to+1
  a:∀j,j<to→0≤uf f (3 * j)∧uf f (3 * j)≤kc old j
  b:∀j,j<to→0≤uf f (3 * j+1)∧uf f (3 * j+1)≤old.length
  c:∀j,j<to→lo≤uf f (3 * j+2)∧uf f (3 * j+2)≤hi
  z:uf f (3 * to)=old.length
  s:∀j,j<to→uf f (3 * j)+uf f (3 * j+1)=uf f (3 * j+2)
  t:psum (fun j=>uf f (3 * j+2)) to=old.length
theorem Qfm {f:List Int} (hf:f.length=3 * to+1) (v:Int):
    lin (ex v) (net old to lo hi) f=psum (fun j=>(uf f (3 * j)+uf f (3 * j+1) - uf f (3 * j+2)) * one ((j:Int)=v)) to+one ((to:Int)=v) * (uf f (3 * to) - psum (fun j=>uf f (3 * j)+uf f (3 * j+1)) to)+one ((to:Int)+1=v) * (psum (fun j=>uf f (3 * j+2)) to - uf f (3 * to)):=by
  rw[QfT (ex v) hf]
  have e:psum (fun j=>ex v (e0 old to j) * uf f (3 * j)+ex v (e1 old to j) * uf f (3 * j+1)+ex v (e2 to lo hi j) * uf f (3 * j+2)) to
      =psum (fun j=>(uf f (3 * j)+uf f (3 * j+1) - uf f (3 * j+2)) * one ((j:Int)=v)+(one ((to:Int)+1=v) * uf f (3 * j+2) - one ((to:Int)=v) * (uf f (3 * j)+uf f (3 * j+1)))) to:=QA fun j _=>by
    unfold ex e0 e1 e2
    dsimp only
    generalize one ((j:Int)=v)=x
    generalize one ((to:Int)=v)=y
    generalize one ((to:Int)+1=v)=w
    generalize uf f (3 * j)=a
    generalize uf f (3 * j+1)=b
    generalize uf f (3 * j+2)=c
    simp only[Int.sub_mul,Int.mul_add,Int.add_mul,Int.mul_comm a x,Int.mul_comm b x,Int.mul_comm c x]
    omega
  rw[e,QbD,QaQ (g:=fun j=>one ((to:Int)+1=v) * uf f (3 * j+2))]
  have e3:∀(y:Int) (g:Nat→Int) n,psum (fun j=>y * g j) n=y * psum g n:=fun y g n=>by
    induction n with
    | zero=>show (0:Int)=y * 0;omega
    | succ n ih=>
      show psum (fun j=>y * g j) n+y * g n=y * (psum g n+g n)
      rw[ih,Int.mul_add]
  rw[e3,e3 _ (fun j=>uf f (3 * j)+uf f (3 * j+1))]
  have eB:ex v (eb old to)=one ((to:Int)=v) - one ((to:Int)+1=v):=rfl
  rw[eB]
  generalize psum (fun j=>uf f (3 * j+2)) to=P
  generalize psum (fun j=>uf f (3 * j)+uf f (3 * j+1)) to=R
  generalize one ((to:Int)=v)=y
  generalize one ((to:Int)+1=v)=w
  generalize uf f (3 * to)=z
  simp only[Int.sub_mul,Int.mul_sub]
  omega

theorem Qeh {f:List Int} (h:Qa0 old to lo hi f):Q5 (net old to lo hi) f∧Circ (net old to lo hi) ((to:Int)+2) f:=by
  refine⟨⟨by rw[h.len,Qci],fun i e y he hy=>?_⟩,fun v _ _=>?_⟩
  · have hif:i<f.length:=(List.getElem?_eq_some_iff.1 hy).1
    rw[QbM hif] at hy
    obtain rfl:=Option.some.inj hy
    rcases QeM he with⟨j,hj,⟨rfl,rfl⟩ | ⟨rfl,rfl⟩ | ⟨rfl,rfl⟩⟩ | ⟨rfl,rfl⟩
    · exact h.a j hj
    · exact h.b j hj
    · exact h.c j hj
    · rw[h.z];exact⟨Int.le_refl _,Int.le_refl _⟩
  · rw[Qfm h.len]
    have e1:psum (fun j=>(uf f (3 * j)+uf f (3 * j+1) - uf f (3 * j+2)) * one ((j:Int)=v)) to=0:=Q4 fun j hj=>by
      have:=h.s j hj
      rw[show uf f (3 * j)+uf f (3 * j+1) - uf f (3 * j+2)=0 by omega];omega
    have e2:psum (fun j=>uf f (3 * j)+uf f (3 * j+1)) to=old.length:=by
      rw[←h.t];exact QA fun j hj=>h.s j hj
    rw[e1,e2,h.t,h.z]
    simp
theorem Qgj {f:List Int} (hw:Q5 (net old to lo hi) f) (hc:Circ (net old to lo hi) ((to:Int)+2) f):Qa0 old to lo hi f:=by
  have hl:f.length=3 * to+1:=by rw[hw.1,Qci]
  have hz:uf f (3 * to)=old.length:=by
    have:=hw.2 (3 * to) _ _ QdR (QbM (by omega))
    unfold eb at this
    dsimp only at this
    omega
  have hs:∀j,j<to→uf f (3 * j)+uf f (3 * j+1)=uf f (3 * j+2):=fun j hj=>by
    have:=hc j (by omega) (by omega)
    rw[Qfm hl] at this
    have o1:one ((to:Int)=(j:Int))=0:=by unfold one;rw[if_neg (by omega)]
    have o2:one ((to:Int)+1=(j:Int))=0:=by unfold one;rw[if_neg (by omega)]
    rw[o1,o2] at this
    have e:psum (fun i=>(uf f (3 * i)+uf f (3 * i+1) - uf f (3 * i+2)) * one ((i:Int)=(j:Int))) to=psum (up (fun _=>0) j (uf f (3 * j)+uf f (3 * j+1) - uf f (3 * j+2))) to:=QA fun i _=>by
      unfold up one
      by_cases q:i=j
      · subst q
        rw[if_pos rfl,if_pos rfl]
        show (uf f (3 * i)+uf f (3 * i+1) - uf f (3 * i+2)) * 1=(0:Int)+(uf f (3 * i)+uf f (3 * i+1) - uf f (3 * i+2))
        omega
      · rw[if_neg (by omega),if_neg q]
        show (uf f (3 * i)+uf f (3 * i+1) - uf f (3 * i+2)) * 0=(0:Int)
        omega
    rw[e,Qa9,if_pos hj,Q4 fun _ _=>rfl] at this
    omega
  have ht:psum (fun j=>uf f (3 * j+2)) to=old.length:=by
    have:=hc ((to:Int)+1) (by omega) (by omega)
    rw[Qfm hl] at this
    have o1:one ((to:Int)=(to:Int)+1)=0:=by unfold one;rw[if_neg (by omega)]
    have o2:one ((to:Int)+1=(to:Int)+1)=1:=by unfold one;rw[if_pos rfl]
    have e:psum (fun i=>(uf f (3 * i)+uf f (3 * i+1) - uf f (3 * i+2)) * one ((i:Int)=(to:Int)+1)) to=0:=Q4 fun i hi'=>by
      unfold one;rw[if_neg (by omega)];omega
    rw[o1,o2,e] at this
    omega
  refine⟨hl,fun j hj=>?_,fun j hj=>?_,fun j hj=>?_,hz,hs,ht⟩
  · exact hw.2 (3 * j) _ _ (Qdi hj).1 (QbM (by omega))
  · exact hw.2 (3 * j+1) _ _ (Qdi hj).2.1 (QbM (by omega))
  · exact hw.2 (3 * j+2) _ _ (Qdi hj).2.2 (QbM (by omega))
theorem Qei {f:List Int} (h:Qa0 old to lo hi f):lin (·.Cost) (net old to lo hi) f=old.length - psum (fun j=>uf f (3 * j)) to:=by
  rw[QfT _ h.len]
  have:psum (fun j=>(e0 old to j).Cost * uf f (3 * j)+(e1 old to j).Cost * uf f (3 * j+1)+(e2 to lo hi j).Cost * uf f (3 * j+2)) to=psum (fun j=>uf f (3 * j+2) - uf f (3 * j)) to:=QA fun j hj=>by
    have:=h.s j hj
    show 0 * uf f (3 * j)+1 * uf f (3 * j+1)+0 * uf f (3 * j+2)=_
    omega
  rw[this,QaQ (g:=fun j=>uf f (3 * j+2)),h.t]
  show _+0 * _=_
  omega
end

/-- Levels that hold for a flow of least cost hold for each flow of the same cost. -/
theorem QgZ {n:Int} {l:List Qb} (hl:∀e∈l,QcN n e) {f L g:List Int} (h:Best n l f L) (hg:Q5 l g) (hc:Circ l n g):lin (·.Cost) l f≤lin (·.Cost) l g∧(lin (·.Cost) l g≤lin (·.Cost) l f→Best n l g L):=by
  -- the reduced costs
  have hn0:0≤n:=by have:=h.len;omega
  have red:∀q,Circ l n q→lin (fun e=>e.Cost+(lv L e.From - lv L e.To)) l q=lin (·.Cost) l q:=fun q hq=>by
    have:lin (fun e=>e.Cost+(lv L e.From - lv L e.To)) l q=lin (·.Cost) l q+lin (fun e=>-1 * (lv L e.To - lv L e.From)) l q:=by
      rw[←Qex]
      exact Qb5 fun e _=>by omega
    rw[this,Qey]
    have h2:lin (fun e=>lv L e.To - lv L e.From) l q=psum (fun i=>lv L (i:Int) * lin (ex i) l q) n.toNat:=by
      rw[QcU (fun i=>lv L (i:Int)) (fun i=>ex i)]
      exact Qb5 fun e he=>(Qew (fun v=>lv L v) (by rw[Int.toNat_of_nonneg hn0];exact hl e he)).symm
    rw[h2,Q4 fun i hi=>by rw[hq i (by omega) (by omega)];omega]
    omega
  have term:∀(k:Nat) e y z,l[k]?=some e→f[k]?=some y→g[k]?=some z→(e.Cost+(lv L e.From - lv L e.To)) * y≤(e.Cost+(lv L e.From - lv L e.To)) * z:=fun k e y z he hy hz=>by
    obtain⟨s1,s2⟩:=h.slack k e y he hy
    obtain⟨g1,g2⟩:=hg.2 k e z he hz
    obtain⟨f1,f2⟩:=h.within.2 k e y he hy
    by_cases q:y≤z
    · by_cases q2:y=z
      · rw[q2];exact Int.le_refl _
      · have:=s1 (by omega)
        exact Int.mul_le_mul_of_nonneg_left q (by omega)
    · have:=s2 (by omega)
      have h0:0≤-(e.Cost+(lv L e.From - lv L e.To)):=by omega
      have:=Int.mul_le_mul_of_nonneg_left (show z≤y by omega) h0
      rw[Int.neg_mul,Int.neg_mul] at this
      omega
  have hle:=Qee _ h.within.1 hg.1 term
  rw[red f h.circ,red g hc] at hle
  refine⟨hle,fun hge=>⟨hg,hc,h.len,h.bd,fun k e z he hz=>?_⟩⟩
  have hkl:k<l.length:=(List.getElem?_eq_some_iff.1 he).1
  have hkf:k<f.length:=by rw[h.within.1];exact hkl
  have hy:f[k]?=some (f[k]'hkf):=List.getElem?_eq_getElem hkf
  generalize f[k]'hkf=y at hy
  have heq:lin (fun e=>e.Cost+(lv L e.From - lv L e.To)) l f=lin (fun e=>e.Cost+(lv L e.From - lv L e.To)) l g:=by rw[red f h.circ,red g hc];omega
  have hk:=QgQ _ h.within.1 hg.1 term heq k e y z he hy hz
  obtain⟨s1,s2⟩:=h.slack k e y he hy
  obtain⟨g1,g2⟩:=hg.2 k e z he hz
  obtain⟨f1,f2⟩:=h.within.2 k e y he hy
  by_cases q:y=z
  · subst q;exact⟨s1,s2⟩
  · have hr:e.Cost+(lv L e.From - lv L e.To)=0:=by
      have:(e.Cost+(lv L e.From - lv L e.To)) * (y - z)=0:=by rw[Int.mul_sub];omega
      rcases Int.mul_eq_zero.1 this with h | h
      · exact h
      · omega
    exact⟨fun _=>by omega,fun _=>by omega⟩

end Go.Proofs.Ytbggdodepjhliaa

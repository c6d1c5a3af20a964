/- Edit: the flow of the targets. No condition. -/
import Derived.Test.YtbggdodepjhliaaEdO
namespace Go.Proofs.Ytbggdodepjhliaa
open Go.Sim

/-- How many keep the target j. -/
def kp:List Int→List Int→Nat→Int
  | a::l,b::m,j=>(if b=(j:Int)∧a=(j:Int) then 1 else 0)+kp l m j
  | _,_,_=>0
theorem Qej:∀(l m:List Int) (j:Nat),0≤kp l m j∧kp l m j≤kc l j∧kp l m j≤kc m j
  | [],m,j=>by
    have:=Qae m j
    show 0≤(0:Int)∧(0:Int)≤kc [] j∧(0:Int)≤kc m j
    exact⟨Int.le_refl _,Int.le_refl _,this.1⟩
  | a::l,[],j=>by
    have:=Qae (a::l) j
    show 0≤(0:Int)∧(0:Int)≤kc (a::l) j∧(0:Int)≤kc [] j
    exact⟨Int.le_refl _,this.1,Int.le_refl _⟩
  | a::l,b::m,j=>by
    obtain⟨h1,h2,h3⟩:=Qej l m j
    rw[Qap,Qap]
    show 0≤(if b=(j:Int)∧a=(j:Int) then 1 else 0)+kp l m j∧(if b=(j:Int)∧a=(j:Int) then 1 else 0)+kp l m j≤_∧(if b=(j:Int)∧a=(j:Int) then 1 else 0)+kp l m j≤_
    unfold one
    by_cases e1:b=(j:Int)<;>by_cases e2:a=(j:Int)<;>simp only[e1,e2,if_true,if_false,and_self,and_true,true_and,and_false,false_and]<;>omega
theorem QfU:∀{l m:List Int} {k:Nat} {a b:Int} (j:Nat),l[k]?=some a→m[k]?=some b→kp (l.take (k+1)) (m.take (k+1)) j=kp (l.take k) (m.take k) j+(if b=(j:Int)∧a=(j:Int) then 1 else 0)
  | [],_,_,_,_,_,h,_=>by simp at h
  | _::_,[],_,_,_,_,_,h=>by simp at h
  | x::l,y::m,0,a,b,j,h1,h2=>by
    simp at h1 h2
    subst h1;subst h2
    show (if y=(j:Int)∧x=(j:Int) then 1 else 0)+kp (l.take 0) (m.take 0) j=0+_
    simp[kp]
  | x::l,y::m,k+1,a,b,j,h1,h2=>by
    simp only[List.getElem?_cons_succ] at h1 h2
    have:=QfU j h1 h2
    show (if y=(j:Int)∧x=(j:Int) then 1 else 0)+kp (l.take (k+1)) (m.take (k+1)) j=(if y=(j:Int)∧x=(j:Int) then 1 else 0)+kp (l.take k) (m.take k) j+_
    rw[this];omega
theorem QhX {l:List Int} {k:Nat} {a:Int} (j:Nat) (h:l[k]?=some a):kc (l.take (k+1)) j=kc (l.take k) j+one (a=(j:Int)):=by
  have hk:k<l.length:=(List.getElem?_eq_some_iff.1 h).1
  have e1:l.take (k+1)=l.take k++[a]:=by
    rw[List.take_succ_eq_append_getElem hk]
    rw[List.getElem?_eq_getElem hk] at h
    rw[Option.some.inj h]
  unfold kc one
  rw[e1,List.count_append,List.count_singleton]
  by_cases e:a=(j:Int)
  · rw[if_pos (by simpa using e),if_pos e];rfl
  · rw[if_neg (by simpa using e),if_neg e];omega
theorem QeC {n:Nat}:∀{l m:List Int},(∀x∈m,0≤x∧x<n)→psum (kp l m) n=QD l m
  | [],m,_=>Q4 fun _ _=>rfl
  | a::l,[],_=>Q4 fun _ _=>rfl
  | a::l,b::m,h=>by
    have ih:=QeC (l:=l) (m:=m) fun x hx=>h x (by simp[hx])
    obtain⟨b0,b1⟩:=h b (by simp)
    have e:psum (kp (a::l) (b::m)) n=psum (fun j=>(if b=a then (1:Int) else 0) * one (b=(j:Int))) n+psum (kp l m) n:=by
      rw[←QbD]
      refine QA fun j _=>?_
      show (if b=(j:Int)∧a=(j:Int) then 1 else 0)+kp l m j=_
      unfold one
      by_cases e1:b=(j:Int)
      · by_cases e2:a=(j:Int)
        · rw[if_pos ⟨e1,e2⟩,if_pos (by omega),if_pos e1];omega
        · rw[if_neg (fun h=>e2 h.2),if_neg (by omega),if_pos e1];omega
      · rw[if_neg (fun h=>e1 h.1),if_neg e1];omega
    rw[e,QbQ (fun _=>if b=a then (1:Int) else 0) n b,if_pos ⟨b0,b1⟩,ih]
    rfl
theorem Qcc {n:Nat}:∀{m:List Int},(∀x∈m,0≤x∧x<n)→psum (kc m) n=m.length
  | [],_=>Q4 fun _ _=>rfl
  | b::m,h=>by
    have ih:=Qcc (m:=m) fun x hx=>h x (by simp[hx])
    obtain⟨b0,b1⟩:=h b (by simp)
    have e:psum (kc (b::m)) n=psum (kc m) n+psum (fun j=>(1:Int) * one (b=(j:Int))) n:=by
      rw[←QbD]
      exact QA fun j _=>by rw[Qap];omega
    rw[e,QbQ (fun _=>1) n b,if_pos ⟨b0,b1⟩,ih]
    simp

def Qb2 (old out:List Int):Nat→List Int
  | 0=>[]
  | n+1=>Qb2 old out n++[kp old out n,kc out n - kp old out n,kc out n]
def QaG (old out:List Int) (to:Nat):List Int:=Qb2 old out to++[(old.length:Int)]
theorem Qcx {old out:List Int}:∀n,(Qb2 old out n).length=3 * n
  | 0=>rfl
  | n+1=>by
    show (Qb2 old out n++_).length=_
    rw[List.length_append,Qcx n];simp;omega
theorem QeN {old out:List Int} {to:Nat}:(QaG old out to).length=3 * to+1:=by unfold QaG;rw[List.length_append,Qcx];rfl
theorem Qfn {old out:List Int}:∀(n j:Nat),j<n→(Qb2 old out n)[3 * j]?=some (kp old out j)∧(Qb2 old out n)[3 * j+1]?=some (kc out j - kp old out j)∧(Qb2 old out n)[3 * j+2]?=some (kc out j)
  | 0,j,h=>absurd h (by omega)
  | n+1,j,h=>by
    have hl:=Qcx (old:=old) (out:=out) n
    show (Qb2 old out n++_)[3 * j]?=_∧(Qb2 old out n++_)[3 * j+1]?=_∧(Qb2 old out n++_)[3 * j+2]?=_
    by_cases e:j=n
    · subst e
      rw[List.getElem?_append_right (by omega),List.getElem?_append_right (by omega),List.getElem?_append_right (by omega),hl]
      rw[show 3 * j - 3 * j=0 by omega,show 3 * j+1 - 3 * j=1 by omega,show 3 * j+2 - 3 * j=2 by omega]
      exact⟨rfl,rfl,rfl⟩
    · rw[List.getElem?_append_left (by omega),List.getElem?_append_left (by omega),List.getElem?_append_left (by omega)]
      exact Qfn n j (by omega)
theorem Qdw {f:List Int} {i:Nat} {y:Int} (h:f[i]?=some y):uf f i=y:=by
  unfold uf lv
  rw[Int.toNat_natCast,h];rfl
theorem QdS {old out:List Int} {to:Nat}:(∀j,j<to→uf (QaG old out to) (3 * j)=kp old out j∧uf (QaG old out to) (3 * j+1)=kc out j - kp old out j∧uf (QaG old out to) (3 * j+2)=kc out j)∧uf (QaG old out to) (3 * to)=old.length:=by
  have hl:=Qcx (old:=old) (out:=out) to
  refine⟨fun j h=>?_,?_⟩
  · obtain⟨h0,h1,h2⟩:=Qfn (old:=old) (out:=out) to j h
    unfold QaG
    refine⟨Qdw ?_,Qdw ?_,Qdw ?_⟩
    · rw[List.getElem?_append_left (by omega)];exact h0
    · rw[List.getElem?_append_left (by omega)];exact h1
    · rw[List.getElem?_append_left (by omega)];exact h2
  · unfold QaG
    refine Qdw ?_
    rw[List.getElem?_append_right (by omega),hl,Nat.sub_self];rfl
theorem uf_ext {f g:List Int} (hl:f.length=g.length) (h:∀i,i<f.length→uf f i=uf g i):f=g:=by
  refine List.ext_getElem? fun i=>?_
  by_cases hi:i<f.length
  · rw[QbM hi,QbM (by omega),h i hi]
  · rw[List.getElem?_eq_none (by omega),List.getElem?_eq_none (by omega)]
/-- A list with these parts is the flow. -/
theorem QhY {old out:List Int} {to:Nat} {f:List Int} (hl:f.length=3 * to+1) (hp:∀j,j<to→uf f (3 * j)=kp old out j∧uf f (3 * j+1)=kc out j - kp old out j∧uf f (3 * j+2)=kc out j) (hz:uf f (3 * to)=old.length):f=QaG old out to:=by
  refine uf_ext (by rw[hl,QeN]) fun i hi=>?_
  obtain⟨q1,q2⟩:=QdS (old:=old) (out:=out) (to:=to)
  by_cases e:i=3 * to
  · subst e;rw[hz,q2]
  · have hj:i / 3<to:=by omega
    obtain⟨a,b,c⟩:=hp _ hj
    obtain⟨a',b',c'⟩:=q1 _ hj
    have:i % 3=0∨i % 3=1∨i % 3=2:=by omega
    rcases this with q | q | q
    · rw[show i=3 * (i / 3) by omega,a,a']
    · rw[show i=3 * (i / 3)+1 by omega,b,b']
    · rw[show i=3 * (i / 3)+2 by omega,c,c']

theorem Qdj {old:List Int} {to:Nat} {lo hi:Int} {used used' out:List Int} (hu:used.length=to) (h0:∀j,j<to→uf used j=0) (h:GOk lo hi old used out used'):Qa0 old to lo hi (QaG old out to):=by
  obtain⟨q1,q2⟩:=QdS (old:=old) (out:=out) (to:=to)
  have hm:∀x∈out,0≤x∧x<(to:Int):=fun x hx=>by have:=h.mem x hx;rw[hu] at this;exact this
  refine⟨QeN,fun j hj=>?_,fun j hj=>?_,fun j hj=>?_,q2,fun j hj=>?_,?_⟩
  · rw[(q1 j hj).1];have:=Qej old out j;exact⟨this.1,this.2.1⟩
  · rw[(q1 j hj).2.1]
    have:=Qej old out j
    have:=Qae out j
    have:=h.len
    omega
  · rw[(q1 j hj).2.2]
    have a:=h.use j (by omega)
    have b:=h.bd j (by omega)
    rw[a,h0 j hj] at b
    omega
  · obtain⟨a,b,c⟩:=q1 j hj
    rw[a,b,c];omega
  · have:psum (fun j=>uf (QaG old out to) (3 * j+2)) to=psum (kc out) to:=QA fun j hj=>(q1 j hj).2.2
    rw[this,Qcc hm,h.len]

/-- The flow of the greedy choice is one of least cost. -/
theorem QfA {old:List Int} {to:Nat} {lo hi:Int} {used used' out:List Int} (ha:QeB old to lo hi) (hu:used.length=to) (h0:∀j,j<to→uf used j=0) (h:GOk lo hi old used out used') {f L:List Int} (hb:Best ((to:Int)+2) (net old to lo hi) f L):Best ((to:Int)+2) (net old to lo hi) (QaG old out to) L:=by
  have hp:=Qdj hu h0 h
  obtain⟨hw,hc⟩:=Qeh hp
  have hf:=Qgj hb.within hb.circ
  refine (QgZ (QgY ha).edges hb hw hc).2 ?_
  rw[Qei hp,Qei hf]
  have hm:∀x∈out,0≤x∧x<(to:Int):=fun x hx=>by have:=h.mem x hx;rw[hu] at this;exact this
  have e1:psum (fun j=>uf (QaG old out to) (3 * j)) to=QD old out:=by
    rw[←QeC (l:=old) hm]
    exact QA fun j hj=>(QdS.1 j hj).1
  rw[e1,h.keep]
  have ht:Fits lo hi to (uf used) old.length (fun j=>uf f (3 * j+2)):=⟨fun j hj=>by
    obtain⟨b1,b2,b3⟩:=ha.b (by omega)
    have:=hf.c j hj
    have:=h0 j hj
    unfold lowP
    omega,hf.t⟩
  have hup:=(QaN (k:=kc old) ht).1
  have hv:psum (fun j=>uf f (3 * j)) to≤valP to (kc old) (fun j=>uf f (3 * j+2)):=Qao fun j hj=>by
    have:=hf.a j hj
    have:=hf.b j hj
    have:=hf.s j hj
    dsimp only
    omega
  unfold allP
  rw[hu]
  omega

end Go.Proofs.Ytbggdodepjhliaa

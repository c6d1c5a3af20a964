/- Edit: the excess of a flow at the nodes, and sums. No condition. -/
import Derived.Test.YtbggdodepjhliaaEdC
namespace Go.Proofs.Ytbggdodepjhliaa
open Go.Sim

/-- One for what is so. -/
def one (p:Prop) [Decidable p]:Int:=if p then 1 else 0
theorem Qed (p:Prop) [Decidable p]:0≤one p∧one p≤1:=by unfold one;split<;>omega
theorem QgP (a v:Int):one (a=v)=if v=a then 1 else 0:=by unfold one;split<;>split<;>omega
def ex (v:Int) (e:Qb):Int:=one (e.To=v) - one (e.From=v)

theorem Qao {g g':Nat→Int}:∀{n:Nat},(∀i,i<n→g i≤g' i)→psum g n≤psum g' n
  | 0,_=>Int.le_refl _
  | n+1,h=>by
    show psum g n+g n≤psum g' n+g' n
    have:=Qao (n:=n) fun i hi=>h i (by omega)
    have:=h n (by omega)
    omega
theorem QbP {g g':Nat→Int}:∀{n:Nat} (k:Nat),(∀i,i<n→g i≤g' i)→k<n→g k<g' k→psum g n<psum g' n
  | 0,k,_,hk,_=>absurd hk (by omega)
  | n+1,k,h,hk,hl=>by
    show psum g n+g n<psum g' n+g' n
    by_cases e:k=n
    · subst e
      have:=Qao (n:=k) fun i hi=>h i (by omega)
      omega
    · have:=QbP (n:=n) k (fun i hi=>h i (by omega)) (by omega) hl
      have:=h n (by omega)
      omega
theorem Q4 {g:Nat→Int}:∀{n:Nat},(∀i,i<n→g i=0)→psum g n=0
  | 0,_=>rfl
  | n+1,h=>by
    show psum g n+g n=0
    rw[Q4 fun i hi=>h i (by omega),h n (by omega)];rfl
theorem Qb1 {g:Nat→Int}:∀{n:Nat},(∀i,i<n→0≤g i)→0≤psum g n
  | 0,_=>Int.le_refl _
  | n+1,h=>by
    show 0≤psum g n+g n
    have:=Qb1 (n:=n) fun i hi=>h i (by omega)
    have:=h n (by omega)
    omega
theorem QbQ (r:Int→Int):∀(n:Nat) (v:Int),psum (fun i=>r i * one (v=(i:Int))) n=if 0≤v∧v<n then r v else 0
  | 0,v=>by
    show (0:Int)=_
    rw[if_neg (by omega)]
  | n+1,v=>by
    show psum (fun i=>r i * one (v=(i:Int))) n+r n * one (v=(n:Int))=_
    rw[QbQ r n v]
    unfold one
    by_cases e:v=(n:Int)
    · subst e
      rw[if_neg (by omega),if_pos rfl,if_pos (by omega)]
      omega
    · rw[if_neg e]
      by_cases h:0≤v∧v<(n:Int)
      · rw[if_pos h,if_pos (by omega)];omega
      · rw[if_neg h,if_neg (by omega)];omega
theorem QaQ {g h:Nat→Int}:∀{n:Nat},psum (fun i=>g i - h i) n=psum g n - psum h n
  | 0=>rfl
  | n+1=>by
    show psum (fun i=>g i - h i) n+(g n - h n)=psum g n+g n - (psum h n+ h n)
    rw[QaQ];omega
theorem Qew (r:Int→Int) {n:Nat} {e:Qb} (h:QcN n e):psum (fun i=>r i * ex i e) n=r e.To - r e.From:=by
  have:psum (fun i=>r i * ex i e) n=psum (fun i=>r i * one (e.To=(i:Int)) - r i * one (e.From=(i:Int))) n:=QA fun i _=>by unfold ex;rw[Int.mul_sub]
  rw[this,QaQ,QbQ,QbQ,if_pos ⟨h.t0,h.t1⟩,if_pos ⟨h.f0,h.f1⟩]

theorem Qb5 {φ ψ:Qb→Int}:∀{l:List Qb} {f:List Int},(∀e∈l,φ e=ψ e)→lin φ l f=lin ψ l f
  | [],_,_=>rfl
  | _::_,[],_=>rfl
  | e::l,y::f,h=>by
    show φ e * y+lin φ l f=ψ e * y+lin ψ l f
    rw[h e (by simp),Qb5 fun e he=>h e (by simp[he])]
theorem QdQ:∀{l:List Qb} {f:List Int},lin (fun _=>0) l f=0
  | [],_=>rfl
  | _::_,[]=>rfl
  | e::l,y::f=>by
    show 0 * y+lin (fun _=>0) l f=0
    rw[QdQ];omega
theorem Qex (φ ψ:Qb→Int):∀(l:List Qb) (f:List Int),lin (fun e=>φ e+ψ e) l f=lin φ l f+lin ψ l f
  | [],_=>rfl
  | _::_,[]=>rfl
  | e::l,y::f=>by
    show (φ e+ψ e) * y+lin (fun e=>φ e+ψ e) l f=φ e * y+lin φ l f+(ψ e * y+lin ψ l f)
    rw[Qex φ ψ l f,Int.add_mul];omega
theorem Qey (c:Int) (φ:Qb→Int):∀(l:List Qb) (f:List Int),lin (fun e=>c * φ e) l f=c * lin φ l f
  | [],_=>by show (0:Int)=c * 0;omega
  | _::_,[]=>by show (0:Int)=c * 0;omega
  | e::l,y::f=>by
    show c * φ e * y+lin (fun e=>c * φ e) l f=c * (φ e * y+lin φ l f)
    rw[Qey c φ l f,Int.mul_add,Int.mul_assoc]
theorem QcU (r:Nat→Int) (φ:Nat→Qb→Int) (l:List Qb) (f:List Int):∀n,psum (fun i=>r i * lin (φ i) l f) n=lin (fun e=>psum (fun i=>r i * φ i e) n) l f
  | 0=>QdQ.symm
  | n+1=>by
    show psum (fun i=>r i * lin (φ i) l f) n+r n * lin (φ n) l f=lin (fun e=>psum (fun i=>r i * φ i e) n+r n * φ n e) l f
    rw[Qex,QcU r φ l f n,Qey]
theorem Qee (ψ:Qb→Int):∀{l:List Qb} {f g:List Int},f.length=l.length→g.length=l.length→(∀(k:Nat) e y z,l[k]?=some e→f[k]?=some y→g[k]?=some z→ψ e * y≤ψ e * z)→lin ψ l f≤lin ψ l g
  | [],_,_,_,_,_=>by simp[lin]
  | e::l,[],_,h,_,_=>by simp at h
  | e::l,_::_,[],_,h,_=>by simp at h
  | e::l,y::f,z::g,h1,h2,h=>by
    show ψ e * y+lin ψ l f≤ψ e * z+lin ψ l g
    have a:=h 0 e y z rfl rfl rfl
    have b:=Qee ψ (l:=l) (f:=f) (g:=g) (by simpa using h1) (by simpa using h2) fun k e y z q1 q2 q3=>h (k+1) e y z (by simpa using q1) (by simpa using q2) (by simpa using q3)
    omega
theorem QgQ (ψ:Qb→Int):∀{l:List Qb} {f g:List Int},f.length=l.length→g.length=l.length→(∀(k:Nat) e y z,l[k]?=some e→f[k]?=some y→g[k]?=some z→ψ e * y≤ψ e * z)→lin ψ l f=lin ψ l g→∀(k:Nat) e y z,l[k]?=some e→f[k]?=some y→g[k]?=some z→ψ e * y=ψ e * z
  | [],_,_,_,_,_,_,k,e,y,z,h,_,_=>by simp at h
  | e::l,[],_,h,_,_,_,_,_,_,_,_,_,_=>by simp at h
  | e::l,_::_,[],_,h,_,_,_,_,_,_,_,_,_=>by simp at h
  | e::l,y::f,z::g,h1,h2,h,he,k,e',y',z',q1,q2,q3=>by
    have he:ψ e * y+lin ψ l f=ψ e * z+lin ψ l g:=he
    have a:=h 0 e y z rfl rfl rfl
    have hh:∀(k:Nat) e y z,l[k]?=some e→f[k]?=some y→g[k]?=some z→ψ e * y≤ψ e * z:=fun k e y z q1 q2 q3=>h (k+1) e y z (by simpa using q1) (by simpa using q2) (by simpa using q3)
    have b:=Qee ψ (l:=l) (f:=f) (g:=g) (by simpa using h1) (by simpa using h2) hh
    cases k with
    | zero=>
      simp at q1 q2 q3
      subst q1;subst q2;subst q3
      omega
    | succ k=>exact QgQ ψ (by simpa using h1) (by simpa using h2) hh (by omega) k e' y' z' (by simpa using q1) (by simpa using q2) (by simpa using q3)
theorem QbR (φ:Qb→Int):∀{l:List Qb} {f:List Int} {k:Nat} {e:Qb} {y:Int},l[k]?=some e→f[k]?=some y→lin φ (l.take (k+1)) (f.take (k+1))=lin φ (l.take k) (f.take k)+φ e * y
  | [],_,_,_,_,h,_=>by simp at h
  | _::_,[],_,_,_,_,h=>by simp at h
  | a::l,b::f,0,e,y,h1,h2=>by
    simp at h1 h2
    subst h1;subst h2
    simp[lin]
  | a::l,b::f,k+1,e,y,h1,h2=>by
    simp only[List.getElem?_cons_succ] at h1 h2
    have:=QbR φ h1 h2
    simp only[List.take_succ_cons,lin]
    rw[this];omega

theorem QgR {x:Qg} (hx:Qac x):Ok (QaC x) (fun E=>(E.length:Int)=x.n∧∀v,0≤v→v<x.n→lv E v=lin (ex v) x.l x.flow∧-1000000≤lv E v∧lv E v≤1000000):=by
  have hn0:=hx.n0;have hn1:=hx.n1;have hl:=hx.l1
  unfold QaC
  refine Ok.mk' hn0 (by omega) ?_
  refine Ok.bind (P:=fun E=>(E.length:Int)=x.n∧∀v,0≤v→v<x.n→lv E v=lin (ex v) x.l x.flow∧-1000000≤lv E v∧lv E v≤1000000) (Ok.loop (fun g s=>∃k:Nat,s.1=k∧k+g=x.l.length∧(s.2.length:Int)=x.n∧∀v,0≤v→v<x.n→lv s.2 v=lin (ex v) (x.l.take k) (x.flow.take k)∧-1000 * k≤lv s.2 v∧lv s.2 v≤1000 * k) x.l.length ⟨0,rfl,by omega,by simp;omega,fun v v0 v1=>?_⟩ fun g s hs=>?_) fun r hr=>Ok.mk hr
  · have:lv (List.replicate x.n.toNat 0) v=0:=by
      unfold lv
      rw[List.getElem?_replicate]
      split<;>rfl
    dsimp only
    rw[this]
    exact⟨rfl,by omega,by omega⟩
  · obtain⟨k,h1,h2,h3,h4⟩:=hs
    obtain⟨sk,E⟩:=s
    dsimp only at h1 h3 h4 ⊢
    subst h1
    refine Ok.ite (fun hk=>?_) (fun hk=>?_)
    · have hk:(k:Int)<x.l.length:=of_decide_eq_true hk
      refine Ok.idx (by omega) hk fun e he hke=>?_
      have hke:x.l[k]?=some e:=by simpa using hke
      obtain⟨y,hy,y0,y1,hE,_,hf⟩:=Qeu hx hke
      have t0:=hE.t0;have t1:=hE.t1;have f0:=hE.f0;have f1:=hE.f1;have e0:=hE.lo;have e1:=hE.hi;have hne:=hE.ne
      refine Ok.lv t0 (by omega) ?_
      have hyk:idx x.flow (k:Int)=some y:=by rw[Qdr,hy]
      rw[hyk]
      simp only[Option.bind_some]
      have b1:=(h4 e.To t0 t1).2
      have b2:=(h4 e.From f0 f1).2
      rw[w64 (by omega) (by omega)]
      refine Ok.setAt t0 (by omega) ?_
      refine Ok.lv f0 (by rw[List.length_set];omega) ?_
      rw[Qbx t0 (by omega) _ f0,if_neg hne,w64 (by omega) (by omega)]
      refine Ok.setAt f0 (by rw[List.length_set];omega) (Ok.mk ⟨g - 1,by omega,k+1,by rw[w64 (by omega) (by omega)];rfl,by omega,by rw[List.length_set,List.length_set];omega,fun v v0 v1=>?_⟩)
      rw[QbR (ex v) hke hy,Qbx f0 (by rw[List.length_set];omega) _ v0,Qbx t0 (by omega) _ v0]
      obtain⟨c1,c2,c3⟩:=h4 v v0 v1
      rw[←c1]
      unfold ex
      rw[QgP,QgP]
      by_cases ef:v=e.From
      · have et:¬v=e.To:=fun q=>hne (ef.symm.trans q)
        simp only[if_pos ef,if_neg et]
        rw[←ef]
        omega
      · by_cases et:v=e.To
        · simp only[if_neg ef,if_pos et]
          rw[←et]
          omega
        · simp only[if_neg ef,if_neg et]
          omega
    · have hk:¬(k:Int)<x.l.length:=of_decide_eq_false hk
      have:k=x.l.length:=by omega
      subst this
      refine Ok.mk ⟨h3,fun v v0 v1=>?_⟩
      obtain⟨c1,c2,c3⟩:=h4 v v0 v1
      rw[List.take_of_length_le (Nat.le_refl _),List.take_of_length_le (by rw[hx.flow.1];exact Nat.le_refl _)] at c1
      exact⟨c1,by omega,by omega⟩

end Go.Proofs.Ytbggdodepjhliaa

/- Edit: a flow is balanced where one exists. No condition. -/
import Derived.Test.YtbggdodepjhliaaEdE
namespace Go.Proofs.Ytbggdodepjhliaa
open Go.Sim

theorem tele (g:Nat→Int):∀n,psum (fun i=>g i - g (i+1)) n=g 0 - g n
  | 0=>by show (0:Int)=g 0 - g 0;omega
  | n+1=>by
    show psum (fun i=>g i - g (i+1)) n+(g n - g (n+1))=_
    rw[tele g n];omega
theorem QhA {l:List Qb} {c:Nat→Qc} {i:Nat} (h:Qcb l (c i)) (v:Int):Qb0 l c (ex v) i=one ((c i).to=v) - one ((c i).from'=v):=by
  obtain⟨e,he,ho⟩:=h.ex
  unfold Qb0
  rw[he]
  unfold ex
  rcases ho with⟨h1,h2,h3,_⟩ | ⟨h1,h2,h3,_⟩
  · simp only[h1,h2,h3];omega
  · simp only[h1,h2,h3];omega
theorem Qge {l:List Qb} {c:Nat→Qc} {i:Nat} (h:Qcb l (c i)):Qb0 l c (·.Cost) i=(c i).cost:=by
  obtain⟨e,he,ho⟩:=h.ex
  unfold Qb0
  rw[he]
  rcases ho with⟨h1,_,_,h3⟩ | ⟨h1,_,_,h3⟩
  · simp only[h1,h3];omega
  · simp only[h1,h3];omega
theorem QeL {x x':Qg} {mp:Mp Qc} {w:Nat→Int} {c:Nat→Qc} {p:Nat} {m:Int} (h:Qcu x mp w c p) (hp:Qcq x x' c p m) (v:Int):
    lin (ex v) x.l x'.flow=lin (ex v) x.l x.flow+m * (one (w 0=v) - one (w p=v)):=by
  rw[hp.lin (ex v)]
  have e:psum (Qb0 x.l c (ex v)) p=psum (fun i=>one (w i=v) - one (w (i+1)=v)) p:=
    QA fun i hi=>(QhA (h.arc i hi) v).trans (by rw[h.to i hi,h.from' i hi])
  rw[e,tele fun i=>one (w i=v)]
theorem Qfy {x x':Qg} {mp:Mp Qc} {w:Nat→Int} {c:Nat→Qc} {p:Nat} {m:Int} (h:Qcu x mp w c p) (hp:Qcq x x' c p m):
    lin (·.Cost) x.l x'.flow=lin (·.Cost) x.l x.flow+m * psum (fun i=>(c i).cost) p:=by
  rw[hp.lin (·.Cost)]
  have e:psum (Qb0 x.l c (·.Cost)) p=psum (fun i=>(c i).cost) p:=QA fun i hi=>Qge (h.arc i hi)
  rw[e]
theorem Qcq.ok {x x':Qg} {c:Nat→Qc} {p:Nat} {m:Int} (hx:Qac x) (h:Qcq x x' c p m):Qac x':=by
  obtain⟨n,l,f,a⟩:=x'
  obtain⟨h1,h2,h3,h4,_⟩:=h
  dsimp only at h1 h2 h3 h4
  subst h1;subst h2;subst h3
  exact⟨hx.n0,hx.n1,hx.l1,hx.edges,h4,hx.arcs,hx.alen⟩

theorem QfQ {x:Qg} (hx:Qac x) {f:Int} {m:List (Int×Qc)} {τ:Int→Int} {t:Int} (h:RI x f m τ t):∀(n:Nat) (w:Int) a,τ w≤n→mget m w=some a→
    ∃p,1≤p∧back m w p=f∧(∀i,i<p→∃b,mget m (back m w i)=some b)
  | n,w,a,hn,ha=>by
    obtain⟨g1,g2,g3,g4,g5,g6⟩:=h.ent w a ha
    have e1:back m w 1=a.from':=by show ((mget m w).getD zarc).from'=_;rw[ha];rfl
    rcases g5 with g5 | ⟨b,hb⟩
    · exact⟨1,Nat.le_refl _,by rw[e1,g5],fun i hi=>by
        have:i=0:=by omega
        subst this;exact⟨a,ha⟩⟩
    · cases n with
      | zero=>have:=h.ge a.from';omega
      | succ n=>
        obtain⟨p,p1,p2,p3⟩:=QfQ hx h n a.from' b (by omega) hb
        refine⟨1+p,by omega,by rw[Qbh,e1,p2],fun i hi=>?_⟩
        cases i with
        | zero=>exact⟨a,ha⟩
        | succ i=>
          rw[Nat.add_comm i 1,Qbh,e1]
          exact p3 i (by omega)

theorem Qfz {x:Qg} (hx:Qac x) {f:Int} {m:List (Int×Qc)} (h:Qdv x f m) {w:Int} {a:Qc} (ha:mget m w=some a):
    ∃u c p,Qcu x (some m) u c p∧u 0=w∧u p=f:=by
  obtain⟨⟨τ,t,h⟩,_⟩:=h
  obtain⟨p,p1,p2,p3⟩:=QfQ hx h (τ w).toNat w a (by omega) ha
  let c:=fun i=>(mget m (back m w i)).getD zarc
  have hc:∀i,i<p→mget m (back m w i)=some (c i):=fun i hi=>by
    obtain⟨b,hb⟩:=p3 i hi
    show _=some ((mget m (back m w i)).getD zarc)
    rw[hb];rfl
  have hce:=fun i hi=>h.ent _ _ (hc i hi)
  have hstep:∀i,i<p→τ (back m w (i+1))<τ (back m w i):=fun i hi=>(hce i hi).2.2.2.2.2
  have hdec:∀i j,i<j→j≤p→τ (back m w j)<τ (back m w i):=fun i j hij=>by
    induction j with
    | zero=>omega
    | succ j ih=>
      intro hjp
      have s:=hstep j (by omega)
      by_cases e:i=j
      · subst e;exact s
      · have:=ih (by omega) (by omega);omega
  refine⟨back m w,c,p,⟨p1,hc,fun i hi=>(Qav hx (hce i hi).1).1,fun i hi=>(hce i hi).2.1,fun i _=>rfl,fun i hi=>(hce i hi).2.2.2.1,fun i _ ip=>by rw[p2];exact (hce i ip).2.2.1,fun i j hij hjp ee=>?_⟩,rfl,p2⟩
  have fi:(c i).from'=back m w (i+1):=rfl
  have fj:(c j).from'=back m w (j+1):=rfl
  have ti:=(hce i (by omega)).2.1
  have tj:=(hce j hjp).2.1
  obtain⟨e,hei,oi⟩:=(Qav hx (hce i (by omega)).1).1.ex
  obtain⟨e',hej,oj⟩:=(Qav hx (hce j hjp).1).1.ex
  rw[ee,hej] at hei
  obtain rfl:=Option.some.inj hei
  have hd:=hdec i j hij (by omega)
  have hd2:=hdec i (j+1) (by omega) (by omega)
  rcases oi with⟨_,a1,a2,a3⟩ | ⟨_,a1,a2,a3⟩<;>rcases oj with⟨_,b1,b2,b3⟩ | ⟨_,b1,b2,b3⟩
  · have:back m w i=back m w j:=by rw[←ti,←tj,a2,b2]
    rw[this] at hd;omega
  · have:back m w i=back m w (j+1):=by rw[←ti,←fj,a2,b1]
    rw[this] at hd2;omega
  · have:back m w i=back m w (j+1):=by rw[←ti,←fj,a2,b1]
    rw[this] at hd2;omega
  · have:back m w i=back m w j:=by rw[←ti,←tj,a2,b2]
    rw[this] at hd;omega

def Circ (l:List Qb) (n:Int) (f:List Int):Prop:=∀v,0≤v→v<n→lin (ex v) l f=0

/-- A cut: what cannot be left holds no more than what any circulation leaves there. -/
theorem cut_ok {x:Qg} (hx:Qac x) (hall:∀(k:Nat) e,x.l[k]?=some e→∀fw:Bool,∃a∈x.arcs,a.edge=k∧a.forward=(if fw=true then 1 else -1)) {f:Int} {m:List (Int×Qc)} (h:Qdv x f m) {g:List Int} (hg:Q5 x.l g) (hc:Circ x.l x.n g) (r:Int→Int) (hr:∀v,(r v=1∧In m f v)∨(r v=0∧¬In m f v)):
    psum (fun i=>r i * lin (ex i) x.l x.flow) x.n.toNat≤0:=by
  have hn0:=hx.n0
  have e1:∀f,psum (fun i=>r i * lin (ex i) x.l f) x.n.toNat=lin (fun e=>r e.To - r e.From) x.l f:=fun f=>by
    rw[QcU (fun i=>r i) (fun i=>ex i)]
    refine Qb5 fun e he=>?_
    have:=hx.edges e he
    exact Qew r (by rw[Int.toNat_of_nonneg hn0];exact this)
  have e2:psum (fun i=>r i * lin (ex i) x.l g) x.n.toNat=0:=Q4 fun i hi=>by
    rw[hc i (by omega) (by omega)];omega
  rw[e1] at e2
  rw[e1,←e2]
  refine Qee _ hx.flow.1 hg.1 fun k e y z hk hy hz=>?_
  have hY:=hx.flow.2 k e y hk hy
  have hZ:=hg.2 k e z hk hz
  have side:∀fw:Bool,∀a∈x.arcs,a.edge=k→a.forward=(if fw=true then 1 else -1)→In m f a.from'→¬In m f a.to→(a.from'=if fw=true then e.From else e.To)∧(a.to=if fw=true then e.To else e.From)∧room x a=(if fw=true then e.Hi - y else y - e.Lo):=fun fw a ha hae haf _ _=>by
    have hA:=(Qav hx ha).1
    obtain⟨e',he',ho⟩:=hA.ex
    have:a.edge.toNat=k:=by omega
    rw[this,hk] at he'
    obtain rfl:=Option.some.inj he'
    have hroom:room x a=if a.forward>0 then e.Hi - y else y - e.Lo:=by unfold room;rw[this,hk,hy]
    cases fw with
    | true=>
      rw[if_pos rfl] at haf
      rcases ho with⟨q1,q2,q3,_⟩ | ⟨q1,_⟩
      · rw[hroom,haf];exact⟨q2,q3,rfl⟩
      · rw[q1] at haf;cases haf
    | false=>
      rw[if_neg (by decide)] at haf
      rcases ho with⟨q1,_⟩ | ⟨q1,q2,q3,_⟩
      · rw[q1] at haf;cases haf
      · rw[hroom,haf];exact⟨q2,q3,rfl⟩
  have full:∀fw:Bool,In m f (if fw=true then e.From else e.To)→¬In m f (if fw=true then e.To else e.From)→(if fw=true then e.Hi - y else y - e.Lo)≤0:=fun fw hi hno=>by
    obtain⟨a,ha,hae,haf⟩:=hall k e hk fw
    have hA:=(Qav hx ha).1
    obtain⟨e',he',ho⟩:=hA.ex
    have hek:a.edge.toNat=k:=by omega
    rw[hek,hk] at he'
    obtain rfl:=Option.some.inj he'
    have hft:a.from'=(if fw=true then e.From else e.To)∧a.to=(if fw=true then e.To else e.From):=by
      cases fw with
      | true=>
        rw[if_pos rfl] at haf
        rcases ho with⟨q1,q2,q3,_⟩ | ⟨q1,_⟩
        · exact⟨q2,q3⟩
        · rw[q1] at haf;cases haf
      | false=>
        rw[if_neg (by decide)] at haf
        rcases ho with⟨q1,_⟩ | ⟨q1,q2,q3,_⟩
        · rw[q1] at haf;cases haf
        · exact⟨q2,q3⟩
    rw[←hft.1] at hi
    rw[←hft.2] at hno
    have hs:=(side fw a ha hae haf hi hno).2.2
    by_cases hq:1≤room x a
    · exact absurd (h.2 a ha hq hi) hno
    · omega
  rcases hr e.To with⟨t1,t2⟩ | ⟨t1,t2⟩<;>rcases hr e.From with⟨f1,f2⟩ | ⟨f1,f2⟩
  · rw[t1,f1];omega
  · have:=full false t2 f2
    rw[if_neg (by decide)] at this
    rw[t1,f1];omega
  · have:=full true f2 t2
    rw[if_pos rfl] at this
    rw[t1,f1];omega
  · rw[t1,f1];omega

end Go.Proofs.Ytbggdodepjhliaa

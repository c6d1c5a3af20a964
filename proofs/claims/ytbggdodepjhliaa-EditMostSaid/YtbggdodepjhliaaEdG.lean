/- Edit: balance, and the least cost. No condition. -/
import Derived.Test.YtbggdodepjhliaaEdF
namespace Go.Proofs.Ytbggdodepjhliaa
open Go.Sim

def Full (l:List Qb) (arcs:List Qc):Prop:=∀(k:Nat) e,l[k]?=some e→∀fw:Bool,∃a∈arcs,a.edge=k∧a.forward=(if fw=true then 1 else -1)
def posp (y:Int):Int:=if 0<y then y else 0
def pot (l:List Qb) (n:Int) (f:List Int):Int:=psum (fun i=>posp (lin (ex i) l f)) n.toNat
theorem Qef (l:List Qb) (n:Int) (f:List Int):0≤pot l n f:=Qb1 fun _ _=>by unfold posp;split<;>omega

theorem Qgf {x x':Qg} {mp:Mp Qc} {w:Nat→Int} {c:Nat→Qc} {p:Nat} {m:Int} (h:Qcu x mp w c p) (hp:Qcq x x' c p m) (hm:1≤m) (v0:0≤w p) (v1:w p<x.n)
    (hv:m≤lin (ex (w p)) x.l x.flow) (hw:m≤-lin (ex (w 0)) x.l x.flow):pot x.l x.n x'.flow<pot x.l x.n x.flow:=by
  have hne:w 0≠w p:=fun e=>by rw[e] at hw;omega
  have hpe:=QeL h hp
  refine QbP (w p).toNat (fun i _=>?_) (by omega) ?_
  · rw[hpe]
    unfold one
    by_cases e0:w 0=(i:Int)
    · rw[if_pos e0,if_neg (fun e=>hne (e0.trans e.symm)),←e0]
      unfold posp
      split<;>split<;>omega
    · by_cases e1:w p=(i:Int)
      · rw[if_neg e0,if_pos e1]
        unfold posp
        split<;>split<;>omega
      · rw[if_neg e0,if_neg e1]
        rw[show m * (0 - 0)=0 by omega,Int.add_zero]
        exact Int.le_refl _
  · have e:((w p).toNat:Int)=w p:=by omega
    rw[e,hpe]
    unfold one
    rw[if_neg hne,if_pos rfl]
    unfold posp
    split<;>split<;>omega

theorem Qgg {x:Qg} (hx:Qac x) (hf:Full x.l x.arcs) {g:List Int} (hg:Q5 x.l g) (hc:Circ x.l x.n g):
    Ok (Qat x) (fun r=>r.1=[]∧∃f,r.2=Qg.mk x.n x.l f x.arcs∧Q5 x.l f∧Circ x.l x.n f):=by
  have hn0:=hx.n0;have hn1:=hx.n1
  have net:∀f,Q5 x.l f→Qac (Qg.mk x.n x.l f x.arcs):=fun f h=>⟨hx.n0,hx.n1,hx.l1,hx.edges,h,hx.arcs,hx.alen⟩
  unfold Qat
  refine Ok.bind (P:=fun p=>p.1=[]∧p.2.1=x.n∧p.2.2.1=x.l∧p.2.2.2.1=x.arcs∧Q5 x.l p.2.2.2.2∧Circ x.l x.n p.2.2.2.2) (Ok.loop (fun k s=>s.1=x.n∧s.2.1=x.l∧s.2.2.1=x.arcs∧Q5 x.l s.2.2.2∧pot x.l x.n s.2.2.2=k) (pot x.l x.n x.flow).toNat ⟨rfl,rfl,rfl,hx.flow,by have:=Qef x.l x.n x.flow;dsimp only;omega⟩ fun k s hs=>?_) fun p hp=>?_
  · obtain⟨h1,h2,h3,h4,h5⟩:=hs
    obtain⟨n,l,ar,f⟩:=s
    dsimp only at h1 h2 h3 h4 h5 ⊢
    subst h1;subst h2;subst h3
    have hy:=net f h4
    refine (QgR hy).bind fun E hE=>?_
    obtain⟨e1,e2⟩:=hE
    dsimp only at e1 e2
    refine Ok.bind (P:=fun r=>match r with | .inl _=>∀v,0≤v→v<x.n→lv E v≤0 | .inr p=>p.1=x.n∧p.2.1=x.l∧p.2.2.1=x.arcs∧Q5 x.l p.2.2.2∧pot x.l x.n p.2.2.2<k)
      (Ok.loop (fun g s=>∃i:Nat,s=i∧i+g=E.length∧∀v:Int,0≤v→v<i→lv E v≤0) E.length ⟨0,rfl,by omega,fun v v0 v1=>absurd v1 (by omega)⟩ fun g' s hs=>?_) fun r hr=>?_
    · obtain⟨i,h1,h2,h3⟩:=hs
      subst h1
      refine Ok.ite (fun hi=>?_) (fun hi=>?_)
      · have hi:(i:Int)<E.length:=of_decide_eq_true hi
        unfold jn
        refine Ok.lv (by omega) hi ?_
        refine Ok.ite (fun hv=>?_) (fun hv=>?_)
        · have hv:lv E i≤0:=of_decide_eq_true hv
          refine Ok.mk ⟨g' - 1,by omega,i+1,by rw[w64 (by omega) (by omega)];rfl,by omega,fun v v0 v1=>?_⟩
          by_cases e:v=i
          · rw[e];exact hv
          · exact h3 v v0 (by omega)
        · have hv:¬lv E i≤0:=of_decide_eq_false hv
          refine (Qhz hy (f:=(i:Int)) (by omega) (by show (i:Int)<x.n;omega)).bind fun mm hm=>?_
          obtain⟨m,rfl,hre⟩:=hm
          refine Ok.bind (P:=fun r=>match r with | .inl _=>False | .inr p=>p.1=x.n∧p.2.1=x.l∧p.2.2.1=x.arcs∧Q5 x.l p.2.2.2∧pot x.l x.n p.2.2.2<k)
            (Ok.loop (fun g s=>∃j:Nat,s=j∧j+g=x.n.toNat∧∀w:Int,0≤w→w<j→(∃a,mget m w=some a)→0≤lv E w) x.n.toNat ⟨0,rfl,by omega,fun v v0 v1=>absurd v1 (by omega)⟩ fun g'' s hs=>?_) fun r hr=>?_
          · obtain⟨j,j1,j2,j3⟩:=hs
            subst j1
            refine Ok.ite (fun hj=>?_) (fun hj=>?_)
            · have hj:(j:Int)<x.n:=of_decide_eq_true hj
              refine Ok.opt (P:=fun r=>r=lv E j) (fun _=>?_) fun r hr=>?_
              · exact⟨_,Qeb (by omega) (by omega),rfl⟩
              · cases hmj:mget m (j:Int) with
                | none=>
                  have e:QC (some m) (j:Int)=none:=hmj
                  rw[e]
                  refine Ok.mk ⟨g'' - 1,by omega,j+1,by rw[w64 (by omega) (by omega)];rfl,by omega,fun w w0 w1 hw=>?_⟩
                  by_cases e:w=j
                  · obtain⟨a,ha⟩:=hw
                    rw[e,hmj] at ha;cases ha
                  · exact j3 w w0 (by omega) hw
                | some a=>
                  have e:QC (some m) (j:Int)=some a:=hmj
                  rw[e] at hr ⊢
                  have hr:=hr rfl
                  subst hr
                  simp only[Option.isSome_some,Bool.true_and]
                  refine Ok.ite (fun hw=>?_) (fun hw=>?_)
                  · have hw:lv E j<0:=of_decide_eq_true hw
                    refine Ok.lv (by omega) (by omega) ?_
                    obtain⟨b1,b2,b3⟩:=e2 j (by omega) hj
                    obtain⟨d1,d2,d3⟩:=e2 i (by omega) (by omega)
                    rw[w64 (by omega) (by omega)]
                    obtain⟨u,c,p,hch,hu0,hup⟩:=Qfz hy hre hmj
                    have q1:=QdN (lv E i) (0 - lv E j);have q2:=QdO (lv E i) (0 - lv E j)
                    have hpush:=QfN hy hch (most:=imin (lv E i) (0 - lv E j)) (Qev (by omega) (by omega))
                    rw[hu0,hup] at hpush
                    refine hpush.bind fun r hr=>?_
                    obtain⟨r1,r2,r3⟩:=hr
                    refine Ok.mk ⟨r3.n,r3.l,r3.arcs,r3.flow,?_⟩
                    have hpp:=Qgf hch r3 r1 (by rw[hup];omega) (by rw[hup];show (i:Int)<x.n;omega) (by rw[hup];show r.1≤lin (ex i) x.l f;omega) (by rw[hu0];show r.1≤-lin (ex j) x.l f;omega)
                    dsimp only at hpp ⊢
                    omega
                  · have hw:¬lv E j<0:=of_decide_eq_false hw
                    refine Ok.mk ⟨g'' - 1,by omega,j+1,by rw[w64 (by omega) (by omega)];rfl,by omega,fun w w0 w1 hw=>?_⟩
                    by_cases e:w=j
                    · rw[e];omega
                    · exact j3 w w0 (by omega) hw
            · have hj:¬(j:Int)<x.n:=of_decide_eq_false hj
              refine Ok.mk ?_
              -- no node that can be reached lacks: a cut
              classical
              have hcut:=cut_ok hy hf hre hg hc (fun v=>if In m i v then 1 else 0) (fun v=>by
                by_cases e:In m i v
                · exact .inl ⟨if_pos e,e⟩
                · exact .inr ⟨if_neg e,e⟩)
              have hpos:psum (fun _=>0) x.n.toNat<psum (fun i'=>(if In m i (i':Int) then (1:Int) else 0) * lin (ex i') x.l f) x.n.toNat:=by
                refine QbP i (fun q hq=>?_) (by omega) ?_
                · by_cases e:In m i (q:Int)
                  · rw[if_pos e,Int.one_mul,←(e2 q (by omega) (by omega)).1]
                    rcases e with e | e
                    · rw[e];omega
                    · exact j3 q (by omega) (by omega) e
                  · rw[if_neg e];omega
                · rw[if_pos (.inl rfl),Int.one_mul,←(e2 i (by omega) (by omega)).1];omega
              have hz:psum (fun _=>0) x.n.toNat=0:=Q4 fun _ _=>rfl
              rw[hz] at hpos
              have hcut:psum (fun i'=>(if In m i (i':Int) then (1:Int) else 0) * lin (ex i') x.l f) x.n.toNat≤0:=hcut
              exact absurd hpos (by omega)
          · cases r with
            | inl u=>exact hr.elim
            | inr p=>
              exact Ok.mk hr
      · have hi:¬(i:Int)<E.length:=of_decide_eq_false hi
        exact Ok.mk fun v v0 v1=>h3 v v0 (by omega)
    · cases r with
      | inl u=>
        refine Ok.mk ⟨rfl,rfl,rfl,rfl,h4,?_⟩
        have hr:∀v,0≤v→v<x.n→lv E v≤0:=hr
        have hsum:psum (fun i=>(1:Int) * lin (ex i) x.l f) x.n.toNat=0:=by
          rw[QcU (fun _=>1) (fun i=>ex i)]
          have:lin (fun e=>psum (fun i=>(1:Int) * ex i e) x.n.toNat) x.l f=lin (fun _=>0) x.l f:=Qb5 fun e he=>by
            have:=Qew (fun _=>1) (n:=x.n.toNat) (e:=e) (by rw[Int.toNat_of_nonneg hn0];exact hx.edges e he)
            rw[this];omega
          rw[this,QdQ]
        intro v v0 v1
        obtain⟨a1,_⟩:=e2 v v0 v1
        have a2:=hr v v0 v1
        show lin (ex v) x.l f=0
        by_cases hz:lin (ex v) x.l f=0
        · exact hz
        · have:psum (fun i=>(1:Int) * lin (ex i) x.l f) x.n.toNat<psum (fun _=>0) x.n.toNat:=QbP v.toNat (fun i hi=>by
            have b1:=(e2 i (by omega) (by omega)).1
            have b2:=hr i (by omega) (by omega)
            show (1:Int) * lin (ex i) x.l f≤0
            omega) (by omega) (by
            have e:((v.toNat:Nat):Int)=v:=by omega
            show (1:Int) * lin (ex ((v.toNat:Nat):Int)) x.l f<0
            rw[e];omega)
          rw[hsum,Q4 fun _ _=>rfl] at this
          omega
      | inr p=>
        obtain⟨p1,p2,p3,p4,p5⟩:=hr
        have:=Qef x.l x.n p.2.2.2
        refine Ok.mk ⟨(pot x.l x.n p.2.2.2).toNat,by omega,p1,p2,p3,p4,by dsimp only;omega⟩
  · obtain⟨p1,p2,p3,p4,p5,p6⟩:=hp
    refine Ok.mk ⟨p1,p.2.2.2.2,?_,p5,p6⟩
    rw[p2,p3,p4]

end Go.Proofs.Ytbggdodepjhliaa

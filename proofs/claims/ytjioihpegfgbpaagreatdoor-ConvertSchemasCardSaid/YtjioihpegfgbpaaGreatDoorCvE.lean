/- The schema after a step. No condition. -/
import Derived.Test.YtjioihpegfgbpaaGreatDoorCvD
set_option linter.all false
open List Go.IntKind
namespace Go.Proofs.YtjioihpegfgbpaaGreatDoor
open Go.Sim
def newF (o:Qt):Qd:=⟨o.Xi,[],[],2,o.N,o.M,[],[]⟩
structure QkY (x:Qa) (o:Qt) (p:Qj) (N:Qa->Qn->Qj->Option Qa):Prop where
  ex:∃K R,(∀v,N ⟨v,x.Xa,x.Xd,x.Xc⟩ (cvO o) p=some ⟨v,K,x.Xd,R⟩)/\Qbf x o=QtI ⟨x.Version,K,x.Xd,R⟩/\∀v,Mid 501 ⟨v,K,x.Xd,R⟩
section
variable {x:Qa} {o:Qt} {k j:Int} {q:Qh} {f:Qd}
theorem gives0 (hm:Mid 500 x) (h:o.Op=0) (hq:idx x.Xa k=some q) (hW:QaC x o=some (k,0,0)) (hO:Qaw x o k 0=some 0):QkY x o ⟨k,-1,-1⟩ Qci:=by
  have hk:=hm.kinds.2 q (Qfk hq).2.2;have hl:=hk.1;refine⟨x.Xa.set k.toNat { q with Xb:=q.Xb++[newF o] },x.Xc,λv=>?_,?_,λv=>hm.set ⟨by simp;omega,λg hg=>?_⟩⟩
  · unfold Qci;simp only[hq,Za];rw[Qcx (by simp;omega)];simp only[Za];rw[Qba hq];rfl
  · unfold Qbf;rw[hW];simp only[Za];rw[Zb (by simp),hO];simp only[Za];rw[Zb (by simp),hm.fields (by decide)];simp only[Za];rw[Ze (by rw[h];rfl),hq];simp only[Za];rw[Qcx (by simp;omega)];simp only[Za];rw[Qba hq];rfl
  · rcases ZH.1 hg with hg | hg
    · exact (hk.2 g hg).mono (by decide)
    · rw[Zg] at hg;subst hg;exact⟨by simp[newF],by simp[newF]⟩
theorem gives6 (hm:Mid 500 x) (h:o.Op=6) (hq:idx x.Xa k=some q) (hW:QaC x o=some (k,0,0)) (hO:Qaw x o k 0=some 0):QkY x o ⟨k,-1,-1⟩ Qb1:=by
  have hk:=hm.kinds.2 q (Qfk hq).2.2;refine⟨x.Xa.set k.toNat { q with Lo:=i64.wrap (q.Lo - o.N),Hi:=i64.wrap (q.Hi+o.M) },x.Xc,λv=>?_,?_,λv=>hm.set (hk.mono (by decide))⟩
  · unfold Qb1;simp only[hq,Za];rw[Qba hq];simp only[Za,Qe5 hq];rw[Qba (Qe5 hq _),List.set_set];rfl
  · unfold Qbf;rw[hW];simp only[Za];rw[Zb (by simp),hO];simp only[Za];rw[Zb (by simp),hm.fields (by decide)];simp only[Za];rw[Zb (by rw[h];decide),Zb (by rw[h];decide),Zb (by rw[h];decide),Zb (by rw[h];decide),Zb (by rw[h];decide),Zb (by rw[h];decide),hq];simp only[Za];rw[Qba hq];simp only[Za,Qe5 hq];rw[Qba (Qe5 hq _),List.set_set];rfl
theorem QrH {α:Type} {l:List α} {i:Int} (h0:0<=i) (h1:i<l.length):sub l 0 i=some (l.take i.toNat):=by unfold sub;rw[Ze ⟨by decide,h0,by omega⟩];simp
theorem QrI {α:Type} {l:List α} {i:Int} (h0:0<=i) (h1:i<l.length) (hl:l.length<=1000):sub l (i64.wrap (i+1)) (l.length:Int)=some (l.drop (i.toNat+1)):=by rw[w64 (by omega) (by omega)];unfold sub;rw[Ze ⟨by omega,by omega,by omega⟩];rw[show (i+1).toNat=i.toNat+1 by omega,ZI (by simp)]
theorem del_eq {l:List Qd} {i:Int} (h0:0<=i) (h1:i<l.length) (hl:l.length<=1000):Qdi l i (i64.wrap (i+1))=some (l.take i.toNat++l.drop (i.toNat+1)):=by rw[w64 (by omega) (by omega)];unfold Qdi;rw[Ze ⟨by omega,by omega,by omega⟩,show (i+1).toNat=i.toNat+1 by omega]
theorem Qyt {l:List Qm} {i:Int} (h0:0<=i) (h1:i<l.length) (hl:l.length<=1000):Qdx l i (i64.wrap (i+1))=some (l.take i.toNat++l.drop (i.toNat+1)):=by rw[w64 (by omega) (by omega)];unfold Qdx;rw[Ze ⟨by omega,by omega,by omega⟩,show (i+1).toNat=i.toNat+1 by omega]
theorem gives1 (hm:Mid 500 x) (h:o.Op=1) (hq:idx x.Xa k=some q) (hf:idx q.Xb j=some f) (hW:QaC x o=some (k,j,0)) (hO:Qaw x o k j=some 0):QkY x o ⟨k,j,-1⟩ Qcj:=by
  have hk:=hm.kinds.2 q (Qfk hq).2.2;have hl:=hk.1;obtain⟨j0,j1,_⟩:=Qfk hf;refine⟨x.Xa.set k.toNat { q with Xb:=q.Xb.take j.toNat++q.Xb.drop (j.toNat+1) },x.Xc,λv=>?_,?_,λv=>hm.set ⟨by simp;omega,λg hg=>?_⟩⟩
  · unfold Qcj;simp only[hq,Za];rw[del_eq j0 j1 (by omega)];simp only[Za];rw[Qba hq];rfl
  · unfold Qbf;rw[hW];simp only[Za];rw[Zb (by simp),hO];simp only[Za];rw[Zb (by simp),hm.fields (by decide)];simp only[Za];rw[Zb (by rw[h];decide),Ze (by rw[h];rfl),hq];simp only[Za];rw[QrH j0 j1,QrI j0 j1 (by omega)];simp only[Za];rw[Qcx (by simp;omega),Qcx (by simp;omega)];simp only[Za];rw[Qba hq];rfl
  · rcases ZH.1 hg with hg | hg
    · exact (hk.2 g (mem_of_mem_take hg)).mono (by decide)
    · exact (hk.2 g (mem_of_mem_drop hg)).mono (by decide)
theorem gives5 {k':Int} (hm:Mid 500 x) (h:o.Op=5) (hj:0<=j/\j<x.Xc.length) (hW:QaC x o=some (k,j,0)) (hO:Qaw x o k j=some 0):QkY x o ⟨k',-1,j⟩ QcD:=by
  have hl:=hm.rules;refine⟨x.Xa,x.Xc.take j.toNat++x.Xc.drop (j.toNat+1),λv=>?_,?_,λv=>⟨⟨Nat.le_succ_of_le hm.kinds.1,λq hq=>(hm.kinds.2 q hq).mono (by decide)⟩,⟨Nat.le_succ_of_le hm.lives.1,λl hl=>⟨Nat.le_succ_of_le (hm.lives.2 l hl).1,Nat.le_succ_of_le (hm.lives.2 l hl).2⟩⟩,by simp;omega⟩⟩
  · unfold QcD;rw[Qyt hj.1 hj.2 (by omega)];rfl
  · unfold Qbf;rw[hW];simp only[Za];rw[Zb (by simp),hO];simp only[Za];rw[Zb (by simp),hm.fields (by decide)];simp only[Za];rw[Zb (by rw[h];decide),Zb (by rw[h];decide),Zb (by rw[h];decide),Zb (by rw[h];decide),Zb (by rw[h];decide),Ze (by rw[h];rfl)];rw[QrH hj.1 hj.2,QrI hj.1 hj.2 (by omega)];simp only[Za];rw[Qcx (by simp;omega),Qcx (by simp;omega)];rfl
theorem gives3 (hm:Mid 500 x) (h:o.Op=3) (hq:idx x.Xa k=some q) (hf:idx q.Xb j=some f) (hW:QaC x o=some (k,j,0)) (hO:Qaw x o k j=some 0):QkY x o ⟨k,j,-1⟩ Qbn:=by
  have hk:=hm.kinds.2 q (Qfk hq).2.2;refine⟨x.Xa.set k.toNat { q with Xb:=q.Xb.set j.toNat { f with Lo:=i64.wrap (i64.wrap (f.Lo * o.N)+o.M),Hi:=i64.wrap (i64.wrap (f.Hi * o.N)+o.M) } },x.Xc,λv=>?_,?_,λv=>hm.set ⟨by simp only[ZS];have:=hk.1;omega,Qe4 (λg hg=>(hk.2 g hg).mono (by decide)) ((hk.2 f (Qfk hf).2.2).mono (b:=501) (by decide))⟩⟩
  · unfold Qbn;simp only[hq,hf,Za];rw[Qba hf];simp only[Za];rw[Qba hq];simp only[Za,Qe5 hq,Qe5 hf];rw[Qba (Qe5 hf _)];simp only[Za];rw[Qba (Qe5 hq _),List.set_set,List.set_set];rfl
  · unfold Qbf;rw[hW];simp only[Za];rw[Zb (by simp),hO];simp only[Za];rw[Zb (by simp),hm.fields (by decide)];simp only[Za];rw[Zb (by rw[h];decide),Zb (by rw[h];decide),Zb (by rw[h];decide),Ze (by rw[h];rfl)];simp only[hq,hf,Za];rw[Qba hf];simp only[Za];rw[Qba hq];simp only[Za,Qe5 hq,Qe5 hf];rw[Qba (Qe5 hf _)];simp only[Za];rw[Qba (Qe5 hq _),List.set_set,List.set_set];rfl
theorem gives4 (hm:Mid 500 x) (h:o.Op=4) (hq:idx x.Xa k=some q) (hf:idx q.Xb j=some f) (hW:QaC x o=some (k,j,0)) (hO:Qaw x o k j=some 0):QkY x o ⟨k,j,-1⟩ Qck:=by
  have hk:=hm.kinds.2 q (Qfk hq).2.2;have hw:=hk.2 f (Qfk hf).2.2;have hw1:=hw.1;have hw2:=hw.2;refine⟨x.Xa.set k.toNat { q with Xb:=q.Xb.set j.toNat { f with Words:=f.Words++[o.Xi],Xf:=f.Xf++[o.N] } },x.Xc,λv=>?_,?_,λv=>hm.set ⟨by simp only[ZS];have:=hk.1;omega,Qe4 (λg hg=>(hk.2 g hg).mono (by decide)) ⟨by simp;omega,by simp;omega⟩⟩⟩
  · unfold Qck;simp only[hq,hf,Za];rw[Qcx (by omega),Qcx (by omega)];simp only[Za];rw[Qba hf];simp only[Za];rw[Qba hq];rfl
  · unfold Qbf;rw[hW];simp only[Za];rw[Zb (by simp),hO];simp only[Za];rw[Zb (by simp),hm.fields (by decide)];simp only[Za];rw[Zb (by rw[h];decide),Zb (by rw[h];decide),Zb (by rw[h];decide),Zb (by rw[h];decide),Ze (by rw[h];rfl)];simp only[hq,hf,Za];rw[Qcx (by simp;omega),Qcx (by simp;omega),Qcx (by simp;omega),Qcx (by simp;omega)];simp only[Za];rw[Qba hf];simp only[Za];rw[Qba hq];rfl
end

/- What find and take say of a step. No condition. -/
import Derived.Test.YtjioihpegfgbpaaGreatDoorCvA
set_option linter.all false
open List
namespace Go.Proofs.YtjioihpegfgbpaaGreatDoor
open Go.Sim
structure RowS (i:Int) (s:Qs) (N:Qa->Qn->Qj->Option Qa):Prop where
  look:Q0 i=some s
  next:∃n,s.next'=some n/\∀x o p,QlS n x o p=N x o p
def QhV (s:Qs) (E:Qa->Qn->Qj->Option Int):Prop:=(s.wrong=none/\∀x o p,E x o p=some 0)\/∃n,s.wrong=some n/\∀x o p,Qke n x o p=E x o p
theorem row0:∃s,RowS 0 s Qci/\s.rule=false/\s.field=false/\QhV s (λ_ _ _=>some 0):=⟨_,⟨rfl,_,rfl,λ_ _ _=>rfl⟩,rfl,rfl,.inl ⟨rfl,λ_ _ _=>rfl⟩⟩
theorem row1:∃s,RowS 1 s Qcj/\s.rule=false/\s.field=true/\QhV s (λ_ _ _=>some 0):=⟨_,⟨rfl,_,rfl,λ_ _ _=>rfl⟩,rfl,rfl,.inl ⟨rfl,λ_ _ _=>rfl⟩⟩
theorem row2:∃s,RowS 2 s Qb8/\s.rule=false/\s.field=true/\QhV s (λ_ _ _=>some 0):=⟨_,⟨rfl,_,rfl,λ_ _ _=>rfl⟩,rfl,rfl,.inl ⟨rfl,λ_ _ _=>rfl⟩⟩
theorem row3:∃s,RowS 3 s Qbn/\s.rule=false/\s.field=true/\QhV s Qb7:=⟨_,⟨rfl,_,rfl,λ_ _ _=>rfl⟩,rfl,rfl,.inr ⟨_,rfl,λ_ _ _=>rfl⟩⟩
theorem row4:∃s,RowS 4 s Qck/\s.rule=false/\s.field=true/\QhV s QdZ:=⟨_,⟨rfl,_,rfl,λ_ _ _=>rfl⟩,rfl,rfl,.inr ⟨_,rfl,λ_ _ _=>rfl⟩⟩
theorem row5:∃s,RowS 5 s QcD/\s.rule=true:=⟨_,⟨rfl,_,rfl,λ_ _ _=>rfl⟩,rfl⟩
theorem row6:∃s,RowS 6 s Qb1/\s.rule=false/\s.field=false/\QhV s QdG:=⟨_,⟨rfl,_,rfl,λ_ _ _=>rfl⟩,rfl,rfl,.inr ⟨_,rfl,λ_ _ _=>rfl⟩⟩
theorem QwJ {i:Int} (h:i<0\/7<=i):Q0 i=none:=by unfold Q0;rw[Zb (by omega),Zb (by omega),Zb (by omega),Zb (by omega),Zb (by omega),Zb (by omega),Zb (by omega)]
inductive QoZ (x:Qa) (o:Qt):Prop
  | bad (e:Int) (he:e≠0) (s:Qs) (p:Qj) (h:QaR x (cvO o)=some (s,p,e)) (h':(∃k f,QaC x o=some (k,f,e))\/∃k f,QaC x o=some (k,f,0)/\Qaw x o k f=some e)
  | kind (s:Qs) (k:Int) (q:Qh) (N:Qa->Qn->Qj->Option Qa) (hs:RowS o.Op s N) (ho:o.Op=0/\N=Qci\/o.Op=6/\N=Qb1) (hq:idx x.Xa k=some q)
      (h:QaR x (cvO o)=some (s,⟨k,-1,-1⟩,0)) (h':QaC x o=some (k,0,0)) (h2:Qaw x o k 0=some 0)
  | field (s:Qs) (k j:Int) (q:Qh) (f:Qd) (N:Qa->Qn->Qj->Option Qa) (hs:RowS o.Op s N)
      (ho:o.Op=1/\N=Qcj\/o.Op=2/\N=Qb8\/o.Op=3/\N=Qbn\/o.Op=4/\N=Qck) (hq:idx x.Xa k=some q) (hf:idx q.Xb j=some f)
      (h:QaR x (cvO o)=some (s,⟨k,j,-1⟩,0)) (h':QaC x o=some (k,j,0)) (h2:Qaw x o k j=some 0)
  | rule (s:Qs) (k k' j:Int) (hs:RowS o.Op s QcD) (ho:o.Op=5) (hj:0<=j/\j<x.Xc.length)
      (h:QaR x (cvO o)=some (s,⟨k',-1,j⟩,0)) (h':QaC x o=some (k,j,0)) (h2:Qaw x o k j=some 0)
theorem QtA {x:Qa} {o:Qt} (h:o.Op<0\/7<=o.Op):QoZ x o:=by refine .bad 1 (by decide) _ _ (by unfold QaR;rw[show (cvO o).Op=o.Op from rfl,QwJ h];exact Ze rfl) (.inl ⟨0,0,?_⟩);unfold QaC;rw[Ze (by simp;omega)]
theorem QtB {x:Qa} {o:Qt} (hx:Few x) (hr:x.Xc.length<=1000) (h:o.Op=5):QoZ x o:=by
  obtain⟨s,hs,hsr⟩:=row5;have hrange:=Qeu x.Xc λr=>r.Xi==o.Xi;have hW:QaC x o=(if (decide (Qfj x o.Xi<(0:Int)))=true then (some ((0:Int),(0:Int),(12:Int))) else (idx (x).Xc (Qfj x o.Xi)).bind λt31=>(some (QR x t31.Xh,Qfj x o.Xi,(0:Int)))):=by unfold QaC;rw[Zb (by rw[h];decide),Ze (by rw[h];decide),Qqn (by omega)];simp only[Za];simp only[Qdt (show x.Xa.length<=1000000 by have:=hx.1;omega),Za]
  have hF:QaR x (cvO o)=(if (decide (Qfj x o.Xi<(0:Int)))=true then (some (s,(Qj.mk (-1:Int) (-1:Int) (Qfj x o.Xi)),(12:Int))) else (idx (x).Xc (Qfj x o.Xi)).bind λt39=>(some (s,(Qj.mk (QR x t39.Xh) (-1:Int) (Qfj x o.Xi)),(0:Int)))):=by unfold QaR;rw[show (cvO o).Op=5 from h,hs.look,Zb (by simp)];simp only[ZQ];rw[Ze hsr,QpV (f:=λx0=>QdY x0 (cvO o)) (p:=λr=>r.Xi==o.Xi) (by omega) (λr _=>rfl)];simp only[Za];simp only[Qc8 (show x.Xa.length<=1000000 by have:=hx.1;omega),Za];rfl
  have hrange':-1<=Qfj x o.Xi/\Qfj x o.Xi<x.Xc.length:=hrange;by_cases hi:Qfj x o.Xi<0
  · rw[Ze (decide_eq_true hi)] at hW hF;exact .bad 12 (by decide) _ _ hF (.inl ⟨_,_,hW⟩)
  · rw[Zb (by simpa using hi)] at hW hF;have hi0:0<=Qfj x o.Xi:=by omega
    obtain⟨r,hr1,_⟩:=Qb2 (l:=x.Xc) (i:=Qfj x o.Xi) hi0 hrange'.2;rw[hr1] at hW hF;refine .rule s _ _ _ (h▸hs) h ⟨hi0,hrange'.2⟩ hF hW ?_;unfold Qaw;rw[h];rw[show ((5:Int)==3)=false from rfl];rfl
theorem Qvk {x:Qa} {o:Qt} {s:Qs} {E:Qa->Qn->Qj->Option Int} (hx:Few x) (hs:Q0 o.Op=some s) (h1:s.rule=false) (h2:s.field=false) (hw:QhV s E):
    QaR x (cvO o)=if QR x o.Xh<0 then some (s,⟨QR x o.Xh,-1,-1⟩,12) else (E x (cvO o) ⟨QR x o.Xh,-1,-1⟩).bind λe=>some (s,⟨QR x o.Xh,-1,-1⟩,e):=by
  unfold QaR;rw[show (cvO o).Op=o.Op from rfl,hs];simp only[ZQ];rw[Zb (by simp),Zb (by simp[h1]),Qc8 (by have:=hx.1;omega)];simp only[Za];rw[Zb (by simp[h2]),show (cvO o).Xh=o.Xh from rfl];simp only[Za,h2,Bool.false_and,Bool.or_false];by_cases hk:QR x o.Xh<0
  · rw[Ze (decide_eq_true hk),Ze hk]
  · rw[Zb (by simpa using hk),Zb hk];rcases hw with⟨w,e⟩ | ⟨n,w,e⟩
    · rw[w,e];rfl
    · rw[w,Ze (by simp)];simp only[Za];rw[e]
theorem QtC {x:Qa} {o:Qt} {s:Qs} {E:Qa->Qn->Qj->Option Int} (hx:Few x) (hs:Q0 o.Op=some s) (h1:s.rule=false) (h2:s.field=true) (hw:QhV s E):
    (QR x o.Xh<0->QaR x (cvO o)=some (s,⟨QR x o.Xh,-1,-1⟩,12))/\
    ∀q,idx x.Xa (QR x o.Xh)=some q->QaR x (cvO o)=if Qan q o.Field<0 then some (s,⟨QR x o.Xh,Qan q o.Field,-1⟩,12) else (E x (cvO o) ⟨QR x o.Xh,Qan q o.Field,-1⟩).bind λe=>some (s,⟨QR x o.Xh,Qan q o.Field,-1⟩,e):=by
  unfold QaR;rw[show (cvO o).Op=o.Op from rfl,hs];simp only[ZQ];rw[Zb (by simp),Zb (by simp[h1]),Qc8 (by have:=hx.1;omega)];simp only[Za,h2,Yl,Bool.true_and];rw[show (cvO o).Xh=o.Xh from rfl];refine⟨λhk=>?_,λq hq=>?_⟩
  · rw[Zb (by simpa using hk)];simp only[Za];rw[Ze (by simp[hk])]
  · have hk:0<=QR x o.Xh:=by
      by_cases c:0<=QR x o.Xh
      · exact c
      · unfold idx at hq;rw[Zb (by omega)] at hq;cases hq
    have hm:q∈x.Xa:=by rw[QfR _ hk] at hq;exact Zo hq
    rw[Ze (by simpa using hk),hq];simp only[Za];rw[Qd1 (by have:=hx.2 q hm;omega)];simp only[Za,Bool.true_and];rw[show (cvO o).Field=o.Field from rfl];by_cases hj:Qan q o.Field<0
    · rw[Ze (by simp[hj]),Ze hj]
    · rw[Zb (by simp;omega),Zb hj];rcases hw with⟨w,e⟩ | ⟨n,w,e⟩
      · rw[w,e];rfl
      · rw[w,Ze (by simp)];simp only[Za];rw[e]
theorem QtD {x:Qa} {o:Qt} (hx:Few x) (h:o.Op=0\/o.Op=6):QaC x o=if QR x o.Xh<0 then some (0,0,12) else some (QR x o.Xh,0,0):=by
  unfold QaC;rw[Zb (by simp;omega),Zb (by simp;omega),Qdt (by have:=hx.1;omega)];simp only[Za];by_cases hk:QR x o.Xh<0
  · rw[Ze (decide_eq_true hk),Ze hk]
  · rw[Zb (by simpa using hk),Zb hk,Ze (by simpa using h)]
theorem Qsb {x:Qa} {o:Qt} (hx:Few x) (h:1<=o.Op/\o.Op<=4):
    (QR x o.Xh<0->QaC x o=some (0,0,12))/\∀q,q∈x.Xa->idx x.Xa (QR x o.Xh)=some q->0<=QR x o.Xh->QaC x o=if Qan q o.Field<0 then some (0,0,12) else some (QR x o.Xh,Qan q o.Field,0):=by
  unfold QaC;rw[Zb (by simp;omega),Zb (by simp;omega),Qdt (by have:=hx.1;omega)];simp only[Za];refine⟨λhk=>Ze (decide_eq_true hk),λq hm hq hk=>?_⟩;rw[Zb (by simpa using hk),Zb (by simp;omega),hq];simp only[Za];rw[Qew (by have:=hx.2 q hm;omega)];simp only[Za];by_cases hj:Qan q o.Field<0
  · rw[Ze (decide_eq_true hj),Ze hj]
  · rw[Zb (by simpa using hj),Zb hj]

/- Both find the same. No condition. -/
import Derived.Test.YtjioihpegfgbpaaGreatDoorCvB
set_option linter.all false
namespace Go.Proofs.YtjioihpegfgbpaaGreatDoor
open Go.Sim
def outB (n a b:Int):Bool:=decide (n<a)||decide (n>b)
theorem QkV (n a b:Int):QbC n a b=some (!outB n a b):=by unfold QbC outB;refine Zu some ?_;by_cases h1:n<a<;>by_cases h2:n>b<;>simp[h1,h2]<;>omega
def QqC (o:Qt):Int:=if (outB o.N 0 65536||outB o.M 0 65536)=true then 5 else 0
def Qm4 (o:Qt) (b:Bool):Int:=if b=false then 13 else if (outB o.N 1 1048576||outB o.M (-1048576) 1048576)=true then 5 else 0
theorem QtE (x:Qa) (o:Qt) (p:Qj):QdG x (cvO o) p=some (QqC o):=by unfold QdG QqC;rw[QkV,QkV,show (cvO o).N=o.N from rfl,show (cvO o).M=o.M from rfl];simp only[Za];generalize outB o.N 0 65536=a;generalize outB o.M 0 65536=b;cases a<;>cases b<;>rfl
theorem Qvl {x:Qa} {o:Qt} {p:Qj} {q:Qh} {f:Qd} (hx:Few x) (hr:x.Xc.length<=1000) (hq:idx x.Xa p.kind=some q) (hf:idx q.Xb p.field=some f):Qb7 x (cvO o) p=some (Qm4 o (QiI x q f p.kind)):=by unfold Qb7 Qm4;rw[Qsa hx hr hq hf,QkV,QkV,show (cvO o).N=o.N from rfl,show (cvO o).M=o.M from rfl];simp only[Za];generalize outB o.N 1 1048576=a;generalize outB o.M (-1048576) 1048576=b;cases QiI x q f p.kind<;>cases a<;>cases b<;>rfl
theorem Qvm {x:Qa} {o:Qt} {p:Qj} {q:Qh} {f:Qd} (hq:idx x.Xa p.kind=some q) (hf:idx q.Xb p.field=some f):QdZ x (cvO o) p=some (if (f.Xh !=3)=true then 13 else 0):=by unfold QdZ;rw[hq];simp only[Za];rw[hf];simp only[Za];cases f.Xh !=3<;>rfl
theorem Ql1 {x:Qa} {o:Qt} {k j:Int} (h3:(o.Op==3)=false) (h4:(o.Op==4)=false) (h6:(o.Op==6)=false):Qaw x o k j=some 0:=by unfold Qaw;rw[h3,h4,h6];rfl
theorem QtF {x:Qa} {o:Qt} {k j:Int} (h:o.Op=6):Qaw x o k j=some (QqC o):=by unfold Qaw QqC outB;rw[h,show ((6:Int)==3)=false from rfl,show ((6:Int)==4)=false from rfl,show ((6:Int)==6)=true from rfl];cases decide (o.N<0)<;>cases decide (o.N>65536)<;>cases decide (o.M<0)<;>cases decide (o.M>65536)<;>rfl
theorem Qsc {x:Qa} {o:Qt} {k j:Int} {q:Qh} {f:Qd} (hx:Few x) (hr:x.Xc.length<=1000) (hq:idx x.Xa k=some q) (hf:idx q.Xb j=some f) (h:o.Op=3):Qaw x o k j=some (Qm4 o (QiI x q f k)):=by unfold Qaw Qm4 outB;rw[QrG hx hr hq hf,h,show ((3:Int)==3)=true from rfl,show ((3:Int)==4)=false from rfl,show ((3:Int)==6)=false from rfl];cases QiI x q f k<;>cases decide (o.N<1)<;>cases decide (o.N>1048576)<;>cases decide (o.M< -1048576)<;>cases decide (o.M>1048576)<;>rfl
theorem QtG {x:Qa} {o:Qt} {k j:Int} {q:Qh} {f:Qd} (hq:idx x.Xa k=some q) (hf:idx q.Xb j=some f) (h:o.Op=4):Qaw x o k j=some (if (f.Xh !=3)=true then 13 else 0):=by unfold Qaw;rw[hq,h,show ((4:Int)==3)=false from rfl,show ((4:Int)==4)=true from rfl,show ((4:Int)==6)=false from rfl];show ((idx q.Xb j).bind _:Option _)=_;rw[hf];simp only[Za];cases f.Xh !=3<;>rfl
theorem Qo0 {x:Qa} {o:Qt} {s:Qs} {E:Qa->Qn->Qj->Option Int} {N:Qa->Qn->Qj->Option Qa} {e:Int} (hx:Few x) (hs:RowS o.Op s N)
    (ho:o.Op=0/\N=Qci\/o.Op=6/\N=Qb1) (h1:s.rule=false) (h2:s.field=false) (hw:QhV s E) (hE:∀p,E x (cvO o) p=some e) (hO:∀k,Qaw x o k 0=some e):QoZ x o:=by
  have hF:=Qvk hx hs.look h1 h2 hw;have hW:=QtD (o:=o) hx (ho.imp And.left And.left);by_cases hk:QR x o.Xh<0
  · rw[Ze hk] at hF hW;exact .bad 12 (by decide) _ _ hF (.inl ⟨_,_,hW⟩)
  · rw[Zb hk] at hF hW;rw[hE] at hF;by_cases he:e=0
    · subst he;obtain⟨q,hq,_⟩:=Qb2 (l:=x.Xa) (i:=QR x o.Xh) (by omega) (Qhi x o.Xh).2;exact .kind s _ q N hs ho hq hF hW (hO _)
    · exact .bad e he _ _ hF (.inr ⟨_,_,hW,hO _⟩)
theorem Qjf {x:Qa} {o:Qt} {s:Qs} {E:Qa->Qn->Qj->Option Int} {N:Qa->Qn->Qj->Option Qa} {e:Qh->Qd->Int->Int} (hx:Few x) (hs:RowS o.Op s N)
    (ho:o.Op=1/\N=Qcj\/o.Op=2/\N=Qb8\/o.Op=3/\N=Qbn\/o.Op=4/\N=Qck) (h1:s.rule=false) (h2:s.field=true) (hw:QhV s E)
    (hE:∀k j q f,idx x.Xa k=some q->idx q.Xb j=some f->E x (cvO o) ⟨k,j,-1⟩=some (e q f k)) (hO:∀k j q f,idx x.Xa k=some q->idx q.Xb j=some f->Qaw x o k j=some (e q f k)):QoZ x o:=by
  obtain⟨f1,f2⟩:=QtC hx hs.look h1 h2 hw;obtain⟨w1,w2⟩:=Qsb (x:=x) (o:=o) hx (by omega);by_cases hk:QR x o.Xh<0
  · exact .bad 12 (by decide) _ _ (f1 hk) (.inl ⟨_,_,w1 hk⟩)
  · have hk0:0<=QR x o.Xh:=by omega
    obtain⟨q,hq,hm⟩:=Qb2 (l:=x.Xa) (i:=QR x o.Xh) hk0 (Qhi x o.Xh).2;have hF:=f2 q hq;have hW:=w2 q hm hq hk0;by_cases hj:Qan q o.Field<0
    · rw[Ze hj] at hF hW;exact .bad 12 (by decide) _ _ hF (.inl ⟨_,_,hW⟩)
    · rw[Zb hj] at hF hW;have hj0:0<=Qan q o.Field:=by omega
      obtain⟨f,hf,_⟩:=Qb2 (l:=q.Xb) (i:=Qan q o.Field) hj0 (Qeu _ _).2;rw[hE _ _ _ _ hq hf] at hF;by_cases he:e q f (QR x o.Xh)=0
      · rw[he] at hF;exact .field s _ _ q f N hs ho hq hf hF hW (by rw[hO _ _ _ _ hq hf,he])
      · exact .bad _ he _ _ hF (.inr ⟨_,_,hW,hO _ _ _ _ hq hf⟩)
theorem found {x:Qa} {o:Qt} (hx:Few x) (hr:x.Xc.length<=1000):QoZ x o:=by
  by_cases hn:o.Op<0\/7<=o.Op
  · exact QtA hn
  have hc:o.Op=0\/o.Op=1\/o.Op=2\/o.Op=3\/o.Op=4\/o.Op=5\/o.Op=6:=by omega
  rcases hc with h | h | h | h | h | h | h
  · obtain⟨s,a,b,c,d⟩:=row0;exact Qo0 hx (h▸a) (.inl ⟨h,rfl⟩) b c d (λ_=>rfl) (λ_=>Ql1 (by rw[h];rfl) (by rw[h];rfl) (by rw[h];rfl))
  · obtain⟨s,a,b,c,d⟩:=row1;exact Qjf (e:=λ_ _ _=>0) hx (h▸a) (.inl ⟨h,rfl⟩) b c d (λ_ _ _ _ _ _=>rfl) (λ_ _ _ _ _ _=>Ql1 (by rw[h];rfl) (by rw[h];rfl) (by rw[h];rfl))
  · obtain⟨s,a,b,c,d⟩:=row2;exact Qjf (e:=λ_ _ _=>0) hx (h▸a) (.inr (.inl ⟨h,rfl⟩)) b c d (λ_ _ _ _ _ _=>rfl) (λ_ _ _ _ _ _=>Ql1 (by rw[h];rfl) (by rw[h];rfl) (by rw[h];rfl))
  · obtain⟨s,a,b,c,d⟩:=row3;exact Qjf (e:=λq f k=>Qm4 o (QiI x q f k)) hx (h▸a) (.inr (.inr (.inl ⟨h,rfl⟩))) b c d (λ_ _ _ _ u v=>Qvl hx hr u v) (λ_ _ _ _ u v=>Qsc hx hr u v h)
  · obtain⟨s,a,b,c,d⟩:=row4;exact Qjf (e:=λq f k=>if (f.Xh !=3)=true then 13 else 0) hx (h▸a) (.inr (.inr (.inr ⟨h,rfl⟩))) b c d (λ_ _ _ _ u v=>Qvm u v) (λ_ _ _ _ u v=>QtG u v h)
  · exact QtB hx hr h
  · obtain⟨s,a,b,c,d⟩:=row6;exact Qo0 hx (h▸a) (.inr ⟨h,rfl⟩) b c d (λ_=>QtE _ _ _) (λ_=>QtF h)

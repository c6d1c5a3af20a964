/- The steps of the law are there. No condition. -/
import Derived.Test.YtjioihpegfgbpaaGreatDoorCvG
import Derived.Test.YtjioihpegfgbpaaGreatDoorCvH
set_option linter.all false
open List Go.IntKind
namespace Go.Proofs.YtjioihpegfgbpaaGreatDoor
open Go.Sim
theorem QwL {l:List Qt} (hl:l.length<=1000):QfJ l=some (l.map cvO):=by
  unfold QfJ;rw[Qru l cvO (λk hk acc ha=>?_) (λacc=>by exact Zb (by simp))]
  · rfl
  · rw[Ze (by simpa using hk),Qaa hk];simp only[Za];rw[Qcx (by simp;omega),QT hk (by omega)];rfl
theorem Qvs {x:Qa} {m:QD} (hm:MOk m):Ok (QhO x m) (λr=>MOk r.2):=by
  unfold QhO;refine Ok.take hm (by decide) λop m1 o0 o1 h1=>Ok.ite (λ_=>Ok.mk h1) (λc=>?_);have hk:1<=(x.Xa.length:Int):=by
    have c:¬((x.Xa.length:Int)=0):=by simpa using c
    omega
  refine Ok.take h1 hk λk m2 k0 k1 h2=>Ok.idx k0 k1 λq hq _=>?_;refine Ok.bind (P:=λp:QD×Qt=>MOk p.1) (Ok.ite (λc=>?_) (λ_=>Ok.mk h2)) λp hp=>?_
  · have c:(q.Xb.length:Int)>0:=Zq c;exact Ok.take h2 (by omega) λj m3 j0 j1 h3=>Ok.idx j0 j1 λf _ _=>Ok.mk h3
  refine Ok.take hp (by decide) λj m3 j0 j1 h3=>Ok.idx j0 (by simpa using j1) λnm _ _=>?_;refine Ok.bind (P:=λp:QD×Qt=>MOk p.1) (Ok.ite (λ_=>?_) (λ_=>?_)) λp hp=>Ok.mk hp
  · exact Ok.take h3 (by decide) λ_ m4 _ _ h4=>Ok.take h4 (by decide) λ_ m5 _ _ h5=>Ok.mk h5
  refine Ok.bind (P:=λp:QD×Qt=>MOk p.1) (Ok.ite (λ_=>?_) (λ_=>?_)) λp hp=>Ok.mk hp
  · exact Ok.take h3 (by decide) λ_ m4 _ _ h4=>Ok.take h4 (by decide) λ_ m5 _ _ h5=>Ok.mk h5
  refine Ok.bind (P:=λp:QD×Qt=>MOk p.1) (Ok.ite (λ_=>?_) (λ_=>?_)) λp hp=>Ok.mk hp
  · exact Ok.take h3 (by decide) λ_ m4 _ _ h4=>Ok.mk h4
  refine Ok.bind (P:=λp:QD×Qt=>MOk p.1) (Ok.ite (λ_=>?_) (λ_=>?_)) λp hp=>Ok.mk hp
  · refine Ok.bind (P:=λp:QD×Qt=>MOk p.1) (Ok.ite (λc=>?_) (λ_=>Ok.mk h3)) λp hp=>Ok.mk hp;have c:(x.Xc.length:Int)>0:=Zq c;exact Ok.take h3 (by omega) λ_ m4 a0 a1 h4=>Ok.idx a0 a1 λ_ _ _=>Ok.mk h4
  refine Ok.bind (P:=λp:QD×Qt=>MOk p.1) (Ok.ite (λ_=>?_) (λ_=>Ok.mk h3)) λp hp=>Ok.mk hp;exact Ok.take h3 (by decide) λ_ m4 _ _ h4=>Ok.take h4 (by decide) λ_ m5 _ _ h5=>Ok.mk h5
theorem QwM {x:Qa} {l:List Int} (hx:Mid 500 x) (hl:∀v∈l,I64 v):Ok (Qg6 x l 5) (λr=>r.length<=5):=by
  unfold Qg6;refine Ok.same (Ok.loop (λk s=>0<=s.1/\s.1+k=15/\s.2.1.length<=5/\Mid 500 s.2.2.1/\MOk s.2.2.2) 15 ⟨ZF _,rfl,by simp,hx,hl⟩ λk s hs=>?_);obtain⟨i,out,y,m⟩:=s;obtain⟨h1,h2,h3,h4,h5⟩:=hs;dsimp only at h1 h2 h3 h4 h5 ⊢;refine Ok.ite (λc=>?_) (λc=>Ok.mk h3);rw[Zh,Zh,w64 (by decide) (by decide)] at c;have c1:i<15:=Zq c.1.1;have c2:(out.length:Int)<5:=Zq c.1.2;refine (Qvs h5).bind λp hp=>?_;obtain⟨z,pl,e,_,hz,hc⟩:=QsG p.1 h4;rw[hz];simp only[Za];refine Ok.bind (P:=λp:List Qt×Qa=>p.1.length<=5/\Mid 500 p.2) (Ok.ite (λc=>?_) (λ_=>Ok.mk ⟨h3,h4⟩)) λr hr=>Ok.mk ⟨k - 1,by omega,?_,?_,hr.1,hr.2,hp⟩
  · by_cases he:e=0
    · rw[Ze he];exact Ok.rm (by simp;omega) (Ok.mk ⟨by simp;omega,(Qk8 (Ql2 (hc he))).mid⟩)
    · rw[Zb he] at c;exact absurd (by simpa using c) he
  · show 0<=i64.wrap _;rw[w64 (by omega) (by omega)];omega
  · show i64.wrap _+_=_;rw[w64 (by omega) (by omega)];omega
theorem Qp5 {l:List Qt} {a h b:Int} (hl:l.length<=100) (ha:I64 a) (hh:I64 h) (hb:I64 b):Ok (Qgz l a h b) (λr=>r.length<=l.length+1):=by
  unfold Qgz jn;simp only[Ya,Zk,Nat.zero_add];refine Ok.rm (by omega) (Ok.ite (λ_=>?_) (λc=>?_))
  · exact Ok.around hb (by decide) λ_ _ _=>Ok.mk (by simp)
  have hk:1<=(l.length:Int):=by
    have c:¬((l.length:Int)=0):=by simpa using c
    omega
  refine Ok.around ha hk λi i0 i1=>Ok.around hh (by decide) λw w0 w1=>?_;have fin:∀v,(l.set i.toNat v).length<=l.length+1:=λv=>by rw[ZS];omega
  refine Ok.ite (λ_=>?_) (λ_=>?_)
  · exact Ok.around hb (by decide) λ_ _ _=>Ok.idx i0 i1 λ_ _ _=>Ok.setAt i0 i1 (Ok.mk (fin _))
  refine Ok.ite (λ_=>?_) (λ_=>?_)
  · exact Ok.around hb (by decide) λj j0 j1=>Ok.idx j0 (by simpa using j1) λ_ _ _=>Ok.idx i0 i1 λ_ _ _=>Ok.setAt i0 i1 (Ok.mk (fin _))
  refine Ok.ite (λ_=>?_) (λ_=>?_)
  · exact Ok.around hb (by decide) λj j0 j1=>Ok.idx j0 (by simpa using j1) λ_ _ _=>Ok.idx i0 i1 λ_ _ _=>Ok.setAt i0 i1 (Ok.mk (fin _))
  refine Ok.ite (λ_=>?_) (λ_=>?_)
  · exact Ok.around hb (by decide) λj j0 j1=>Ok.idx j0 (by simpa using j1) λ_ _ _=>Ok.idx i0 i1 λ_ _ _=>Ok.setAt i0 i1 (Ok.mk (fin _))
  refine Ok.ite (λ_=>?_) (λ_=>?_)
  · exact Ok.around hb (by decide) λj j0 j1=>Ok.idx j0 (by simpa using j1) λ_ _ _=>Ok.idx i0 i1 λ_ _ _=>Ok.setAt i0 i1 (Ok.mk (fin _))
  refine Ok.ite (λ_=>?_) (λ_=>?_)
  · exact Ok.around hb (by decide) λj j0 j1=>Ok.idx j0 (by simpa using j1) λ_ _ _=>Ok.idx i0 i1 λ_ _ _=>Ok.setAt i0 i1 (Ok.mk (fin _))
  exact Ok.idx i0 i1 λ_ _ _=>Ok.rm (by simp;omega) (Ok.mk (by simp))

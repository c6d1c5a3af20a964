/- CountsLimits. No condition. -/
import Derived.Test.YtlajingmjmnfgaaGreatDoorTyO
import Derived.Test.YtlajingmjmnfgaaGreatDoorEvalA
set_option linter.all false
open List Go.IntKind
namespace Go.Proofs.YtlajingmjmnfgaaGreatDoor
open Go.Sim
def Ql5 {β γ:Type} (n:Nat) (g:Nat->List β) (h:Nat->List γ) (B:Nat) (hB:∀k,k<n->(g k).length<=B/\(h k).length<=B) (a0:List β) (b0:List γ) {body:Int×List β×List γ->Option ((Int×List β×List γ)⊕(List β×List γ))}
  (hs:∀k,k<n->∀(p:List β) (q:List γ),p.length<=a0.length+k * B->q.length<=b0.length+k * B->body ((k:Int),p,q)=some (.inl (((k+1:Nat):Int),p++g k,q++ h k))) (he:∀p q,body ((n:Int),p,q)=some (.inr (p,q))):
  Qu body ((0:Int),a0,b0)=some (a0++(range n).flatMap g,b0++(range n).flatMap h):=by
 have hlen:∀m,m<=n->((range m).flatMap g).length<=m * B/\((range m).flatMap h).length<=m * B:=λm hm=>⟨Qci m g B λk hk=>(hB k (by omega)).1,Qci m h B λk hk=>(hB k (by omega)).2⟩;have key:=QeA (body:=body) n (λm=>((m:Int),a0++(range m).flatMap g,b0++(range m).flatMap h)) (a0++(range n).flatMap g,b0++(range n).flatMap h) (λk hk=>?_) ?_
 ·simpa using key
 ·have:=hlen k (by omega);rw[hs k hk _ _ (by rw[Zd];omega) (by rw[Zd];omega),Yr,Zx,Zx];simp
 ·rw[he]
def Qgw:Str:=[32,108,101,97,115,116]
def Qiz:Str:=[32,109,111,115,116]
section
variable {τ:Type} (mk:Int->Int->Int->Bool->τ)
def Qjf (i j lo hi:Int):List τ:=[mk i j lo true,mk i j hi false]
def fldL (x:Qe) (i:Nat) (q:Qf) (j:Nat):List τ:=match q.Xb[j]? with | some f=>if (f.Xi==1)=true then Qjf mk (i:Int) (QW x f.Of) f.Lo f.Hi else [] | none=>[]
def kndL (x:Qe) (i:Nat):List τ:=match x.Xa[i]? with | some q=>Qjf mk (i:Int) (-1) q.Lo q.Hi++(range q.Xb.length).flatMap (fldL mk x i q) | none=>[]
def limL (x:Qe):List τ:=(range x.Xa.length).flatMap (kndL mk x)
end
def Qjg (s:Str):List Str:=[s++Qgw,s++Qiz]
def fldN (q:Qf) (j:Nat):List Str:=match q.Xb[j]? with | some f=>if (f.Xi==1)=true then Qjg ((q.Xj++[46])++f.Xj) else [] | none=>[]
def kndN (x:Qe) (i:Nat):List Str:=match x.Xa[i]? with | some q=>Qjg q.Xj++(range q.Xb.length).flatMap (fldN q) | none=>[]
def namL (x:Qe):List Str:=(range x.Xa.length).flatMap (kndN x)
def Qne {τ:Type} (mk:Int->Int->Int->Bool->τ) (x:Qe) (i:Nat) (q:Qf) (j:Nat):(fldL mk x i q j).length<=2/\(fldN q j).length<=2:=by
 unfold fldL fldN
 cases q.Xb[j]? with
 | none=>simp
 | some f=>dsimp only;constructor<;>split<;>simp[Qjf,Qjg]
def Qlq {τ:Type} (mk:Int->Int->Int->Bool->τ) {x:Qe} (hv:Qh4 x) (i:Nat):(kndL mk x i).length<=22/\(kndN x i).length<=22:=by
 unfold kndL kndN
 cases hq:x.Xa[i]? with
 | none=>simp
 | some q=>have hf:=(Qdj (hv.kind q (Zm hq))).2.1;have h1:=Qci q.Xb.length (fldL mk x i q) 2 λj _=>(Qne mk x i q j).1;have h2:=Qci q.Xb.length (fldN q) 2 λj _=>(Qne mk x i q j).2;simp only[Zd,Qjf,Qjg,Zh,Zi];omega
def Qi0 {x:Qe} {p:Qr} (h:p∈Qa0 x):p.Code≠0:=by
 have hp:∀{k j r e:Int},p∈prob k j r e->p.Code≠0:=λ{k j r e} h=>by
  unfold prob at h;split at h
  ·cases h
  ·rw[Zg.1 h];assumption
 unfold Qa0 at h;split at h
 ·simp only[ZF] at h;rcases h with (h | h) | h
  ·obtain⟨i,_,h⟩:=ZZ.1 h;unfold QgF at h;split at h
   ·exact hp h
   ·cases h
  ·obtain⟨i,_,h⟩:=ZZ.1 h;unfold Qhe at h;split at h
   ·rcases ZF.1 h with h | h
    ·exact hp h
    ·obtain⟨j,_,h⟩:=ZZ.1 h;unfold Qio at h;split at h
     ·exact hp h
     ·cases h
   ·cases h
  ·obtain⟨i,_,h⟩:=ZZ.1 h;unfold QjU at h;split at h
   ·exact hp h
   ·cases h
 ·rw[Zg.1 h];assumption
def QdQ {x:Qe} (h:Qa0 x=[]):Qh4 x:=by
 unfold Qa0 at h;by_cases hv:Qgt x=0
 ·unfold Qgt at hv;by_cases hs:QhE x=true
  ·exact QkC hs
  ·rw[Zc hs] at hv;cases hv
 ·rw[Zc hv] at h;cases h
def Qh6 {q:Qf} (h:Qfc q=true):q.Xj.length<=12:=by simp only[Qfc,Zk] at h;exact QbN h.1.1.1
def Qhg {f:Qb} (h:QaX f=true):f.Xj.length<=12:=by simp only[QaX,Zk] at h;exact QbN h.1.1
def Qbj {n:Nat} (h:n<=1000000):cat n=some ():=by unfold cat;rw[Zb (by omega)]
def add13 {s:Str} {a b lo hi:Int} {c0:List Qx} {c1:List Str} (hs:s.length<=1000) (h0:c0.length<=1000000) (h1:c1.length<=1000000):
  Qcf s a b lo hi c0 c1=some (c0++Qjf Qx.mk a b lo hi,c1++Qjg s):=by
 unfold Qcf;rw[Qb4 (by simp;omega),Qbj (by simp;omega),Qbj (by simp;omega),Qb4 (by simp;omega)];rfl
def Qw2 {x:Qe} (h:Qd8 x):Qee x=some (match Qa0 x with | []=>0 | p::_=>p.Code):=by
 unfold Qee;rw[Qq6 h];simp only[Za]
 cases Qa0 x with
 | nil=>rfl
 | cons p l=>rw[Zb (by simp)];rfl
noncomputable def limR {τ:Type} (mk:Int->Int->Int->Bool->τ) (x:Qe):List τ×List Str×Int:=match Qa0 x with | []=>(limL mk x,namL x,0) | p::_=>([],[],p.Code)
def Qvu {x:Qe} (h:Qd8 x):QcX x=some (limR Qx.mk x):=by
 unfold QcX limR;rw[Qw2 h];simp only[Za]
 cases hc:Qa0 x with
 | cons p l=>have:=Qi0 (x:=x) (p:=p) (by rw[hc];exact Zp ..);dsimp only;rw[Zb (by simpa using this)]
 | nil=>
  have hv:=QdQ hc;have hk:=hv.kinds;dsimp only;rw[Zc (by simp)];refine (ZQ (Option.bind · _) (Ql5 x.Xa.length (kndN x) (kndL Qx.mk x) 22 (λi _=>⟨(Qlq Qx.mk hv i).2,(Qlq Qx.mk hv i).1⟩) [] [] (λi hi p q hp hq=>?_) (λp q=>by rw[Zc (by simp)]))).trans ?_
  ·simp only[Zi,Nat.zero_add] at hp hq;have hib:i * 22<=132:=by omega
   rw[Zb (by simpa using hi),QY hi];have hK:=hv.kind _ (Zl hi);have hf10:=(Qdj hK).2.1;have hnm:=Qh6 hK;simp only[Za];rw[add13 (by omega) (by omega) (by omega)];simp only[Za];rw[Ql5 x.Xa[i].Xb.length (fldL Qx.mk x i x.Xa[i]) (fldN x.Xa[i]) 2 (λj _=>Qne _ _ _ _ _) _ _ (λj hj p' q' hp' hq'=>?_) (λp' q'=>by rw[Zc (by simp)])]
   ·simp only[Za];have e1:kndL Qx.mk x i=Qjf Qx.mk (i:Int) (-1) x.Xa[i].Lo x.Xa[i].Hi++(range x.Xa[i].Xb.length).flatMap (fldL Qx.mk x i x.Xa[i]):=by unfold kndL;rw[Ze hi]
    have e2:kndN x i=Qjg x.Xa[i].Xj++(range x.Xa[i].Xb.length).flatMap (fldN x.Xa[i]):=by unfold kndN;rw[Ze hi]
    rw[e1,e2,QH hi (by omega),Zu,Zu]
   ·simp only[Zd,Qjf,Qjg,Zh,Zi] at hp' hq';have hfn:=Qhg ((Qdj hK).2.2 _ (Zl hj));rw[Zb (by simpa using hj),QY hj];simp only[Za];have e1:fldL Qx.mk x i x.Xa[i] j=if (x.Xa[i].Xb[j].Xi==1)=true then Qjf Qx.mk (i:Int) (QW x x.Xa[i].Xb[j].Of) x.Xa[i].Xb[j].Lo x.Xa[i].Xb[j].Hi else []:=by unfold fldL;rw[Ze hj]
    have e2:fldN x.Xa[i] j=if (x.Xa[i].Xb[j].Xi==1)=true then Qjg ((x.Xa[i].Xj++[46])++x.Xa[i].Xb[j].Xj) else []:=by unfold fldN;rw[Ze hj]
    rw[e1,e2,QH hj (by omega)]
    cases (x.Xa[i].Xb[j].Xi==1) with
    | false=>simp
    | true=>rw[Zb rfl,Zb rfl,Zb rfl,Qbj (by simp;omega),Qbj (by simp;omega),QdF (by omega)];simp only[Za];rw[add13 (by simp;omega) (by omega) (by omega)];rfl
  ·rfl
def Qtl {x:Qe} (h:Qd8 x):Qgp x=some (limR QT.mk x):=by
 unfold Qgp limR;rw[QpA h];simp only[Za]
 cases hc:Qa0 x with
 | cons p l=>rw[Zb (by simp)];rfl
 | nil=>
  have hv:=QdQ hc;have hk:=hv.kinds;rw[Zc (by simp)];refine (ZQ (Option.bind · _) (Ql5 x.Xa.length (kndN x) (kndL QT.mk x) 22 (λi _=>⟨(Qlq QT.mk hv i).2,(Qlq QT.mk hv i).1⟩) [] [] (λi hi p q hp hq=>?_) (λp q=>by rw[Zc (by simp)]))).trans ?_
  ·simp only[Zi,Nat.zero_add] at hp hq;have hib:i * 22<=132:=by omega
   rw[Zb (by simpa using hi),QY hi];have hK:=hv.kind _ (Zl hi);have hf10:=(Qdj hK).2.1;have hnm:=Qh6 hK;simp only[Za];rw[Qb4 (by simp;omega),Qbj (by simp;omega),Qbj (by simp;omega),Qb4 (by simp;omega)];simp only[Za];rw[Ql5 x.Xa[i].Xb.length (fldL QT.mk x i x.Xa[i]) (fldN x.Xa[i]) 2 (λj _=>Qne _ _ _ _ _) _ _ (λj hj p' q' hp' hq'=>?_) (λp' q'=>by rw[Zc (by simp)])]
   ·simp only[Za];have e1:kndL QT.mk x i=Qjf QT.mk (i:Int) (-1) x.Xa[i].Lo x.Xa[i].Hi++(range x.Xa[i].Xb.length).flatMap (fldL QT.mk x i x.Xa[i]):=by unfold kndL;rw[Ze hi]
    have e2:kndN x i=Qjg x.Xa[i].Xj++(range x.Xa[i].Xb.length).flatMap (fldN x.Xa[i]):=by unfold kndN;rw[Ze hi]
    rw[e1,e2,QH hi (by omega),Zu,Zu];rfl
   ·simp only[Zd,Zh,Zi] at hp' hq';have hfn:=Qhg ((Qdj hK).2.2 _ (Zl hj));rw[Zb (by simpa using hj),QY hj];simp only[Za];have e1:fldL QT.mk x i x.Xa[i] j=if (x.Xa[i].Xb[j].Xi==1)=true then Qjf QT.mk (i:Int) (QW x x.Xa[i].Xb[j].Of) x.Xa[i].Xb[j].Lo x.Xa[i].Xb[j].Hi else []:=by unfold fldL;rw[Ze hj]
    have e2:fldN x.Xa[i] j=if (x.Xa[i].Xb[j].Xi==1)=true then Qjg ((x.Xa[i].Xj++[46])++x.Xa[i].Xb[j].Xj) else []:=by unfold fldN;rw[Ze hj]
    rw[e1,e2,QH hj (by omega)]
    cases (x.Xa[i].Xb[j].Xi==1) with
    | false=>simp
    | true=>rw[Zb rfl,Zb rfl,Zb rfl,Qeg (by omega)];simp only[Za];rw[Qb4 (by simp;omega),Qbj (by simp;omega),Qbj (by simp;omega),Qbj (by simp;omega),Qbj (by simp;omega),Qb4 (by simp;omega)];rfl
  ·rfl
def Qo3 {a:List Str} (ha:a.length<=1000000):Qcg a a=some true:=by
 unfold Qcg;rw[Zc (by simp),QbT a (λ_=>true) false (λk hk=>?_) (Zc (by simp))]
 ·rw[Zb (by simp)];rfl
 ·rw[Zb rfl,Zb (by simpa using hk),QY hk];simp only[Za];rw[Zc (by simp),QH hk (by omega)]
def Qw3 {k j r e:Int} (h:prob k j r e=[]):e=0:=by
 unfold prob at h;split at h
 ·assumption
 ·cases h
def Qoz {a:Bool} {c:Int} {r:List QK} (h:Qbi (⟨a,c⟩::r)=0) (hc:c≠0):a=false/\Qbi r=0:=by
 unfold Qbi at h
 cases a with
 | true=>exact (hc h).elim
 | false=>exact⟨rfl,h⟩
def lowT:Str:=[32,108,111,119]
def Ql6:Str:=[32,104,105,103,104]
def QiA:Str:=[114,117,108,101,58]
abbrev Dt:=Int×Str×QV
def ofIx (q:Qf) (f:Qb):Int:=if ((f.Xi==4)&&(f.Of !=([]:Str)))=true then Qaf q f.Of else -1
def dotN (q:Qf) (f:Qb):Str:=(q.Xj++[46])++f.Xj
def fldT (i:Nat) (q:Qf) (j:Nat):List Dt:=match q.Xb[j]? with
 | some f=>if ((f.Xi !=2)&&(f.Xi !=4))=true then [] else [((i:Int),dotN q f++lowT,QV.mk (ofIx q f) (j:Int) (i64.wrap (0 - f.Lo))),((i:Int),dotN q f++Ql6,QV.mk (j:Int) (ofIx q f) f.Hi)]
 | none=>[]
def kndT (x:Qe) (i:Nat):List Dt:=match x.Xa[i]? with | some q=>(range q.Xb.length).flatMap (fldT i q) | none=>[]
def rulT (x:Qe) (i:Nat):List Dt:=match x.Xc[i]? with
 | some r=>match idx x.Xa (QW x r.Xi) with | some q=>[(QW x r.Xi,QiA++r.Xj,QV.mk (Qaf q r.A) (Qaf q r.B) r.N)] | none=>[]
 | none=>[]
def QkH (x:Qe):List Dt:=(range x.Xa.length).flatMap (kndT x)++(range x.Xc.length).flatMap (rulT x)
def mkD (t:Dt):QE:=⟨t.1,t.2.1,t.2.2⟩
def mkN (t:Dt):QQ:=⟨t.1,t.2.1,t.2.2⟩
def QnG (i:Nat) (q:Qf) (j:Nat):(fldT i q j).length<=2:=by
 unfold fldT
 cases q.Xb[j]? with
 | none=>simp
 | some f=>dsimp only;split<;>simp
def Qkr {x:Qe} (hv:Qh4 x) (i:Nat):(kndT x i).length<=20:=by
 unfold kndT
 cases hq:x.Xa[i]? with
 | none=>simp
 | some q=>have hf:=(Qdj (hv.kind q (Zm hq))).2.1;have h1:=Qci q.Xb.length (fldT i q) 2 λj _=>QnG i q j;dsimp only;omega
def QnH (x:Qe) (i:Nat):(rulT x i).length<=1:=by
 unfold rulT
 cases x.Xc[i]? with
 | none=>simp
 | some r=>dsimp only;cases idx x.Xa (QW x r.Xi) with | none=>simp | some q=>simp
def Qjw {x:Qe} (hv:Qh4 x):(QkH x).length<=136:=by unfold QkH;rw[Zd];have h1:=Qci x.Xa.length (kndT x) 20 λj _=>Qkr hv j;have h2:=Qci x.Xc.length (rulT x) 1 λj _=>QnH x j;have:=hv.kinds;have:=hv.rules;omega
def QkI {r:Qh} (h:Qfd r=true):r.Xj.length<=12:=by simp only[Qfd,Zk] at h;exact QbN h.1.1.1.1.1
def Qvv {x:Qe} (hc:Qa0 x=[]) {i:Nat} {r:Qh} (hr:x.Xc[i]?=some r):Ql1 x i r=0:=by
 unfold Qa0 at hc;split at hc
 ·have h:=(append_eq_nil_iff.1 hc).2;have hi:i<x.Xc.length:=(Zf.1 hr).1;have:=flatMap_eq_nil_iff.1 h i (Yp.2 hi);unfold QjU at this;rw[hr] at this;exact Qw3 this
 ·cases hc
def QmU {x:Qe} (hc:Qa0 x=[]) {i:Nat} {r:Qh} (hr:x.Xc[i]?=some r):∃q,0<=QW x r.Xi/\idx x.Xa (QW x r.Xi)=some q/\q∈x.Xa:=by have h:=Qvv hc hr;unfold Ql1 at h;have h2:=(Qoz (Qoz h (by decide)).2 (by decide)).1;simp only[Bool.or_eq_false_iff,ZU] at h2;have hr:=QfF x.Xa λk=>k.Xj==r.Xi;obtain⟨q,hq,hm⟩:=QcR (l:=x.Xa) (i:=QW x r.Xi) (by omega) hr.2;exact⟨q,by omega,hq,hm⟩
def flat_map' {α β:Type} (g:α->β) (n:Nat) (F:Nat->List α):(range n).flatMap (λi=>(F i).map g)=((range n).flatMap F).map g:=by rw[map_flatMap]
def Qw4 {x:Qe} (hs:Qd8 x) (hc:Qa0 x=[]):Qez x=some ((QkH x).map mkD):=by
 have hv:=QdQ hc;have hk6:=hv.kinds;have hr16:=hv.rules;unfold Qez;have hall:((range x.Xa.length).flatMap (kndT x)).length<=120:=by have h1:=Qci x.Xa.length (kndT x) 20 λj _=>Qkr hv j;omega
 refine (ZQ (Option.bind · _) (Qdl x.Xa.length (λi=>(kndT x i).map mkD) 20 (λi _=>by rw[Zy];exact Qkr hv i) [] (λi hi acc hacc=>?_) (λacc=>by rw[Zc (by simp)]))).trans ?_
 ·simp only[Zi,Nat.zero_add] at hacc;rw[Zb (by simpa using hi),QY hi];have hK:=hv.kind _ (Zl hi);have hf10:=(Qdj hK).2.1;have hnm:=Qh6 hK;simp only[Za];rw[Qdl x.Xa[i].Xb.length (λj=>(fldT i x.Xa[i] j).map mkD) 2 (λj _=>by rw[Zy];exact QnG _ _ _) acc (λj hj p hp=>?_) (λp=>by rw[Zc (by simp)])]
  ·simp only[Za];have e:kndT x i=(range x.Xa[i].Xb.length).flatMap (fldT i x.Xa[i]):=by unfold kndT;rw[Ze hi]
   rw[e,QH hi (by omega),flat_map']
  ·have hfn:=Qhg ((Qdj hK).2.2 _ (Zl hj));rw[Zb (by simpa using hj),QY hj];simp only[Za];have e:fldT i x.Xa[i] j=if ((x.Xa[i].Xb[j].Xi !=2)&&(x.Xa[i].Xb[j].Xi !=4))=true then [] else [((i:Int),dotN x.Xa[i] x.Xa[i].Xb[j]++lowT,QV.mk (ofIx x.Xa[i] x.Xa[i].Xb[j]) (j:Int) (i64.wrap (0 - x.Xa[i].Xb[j].Lo))),((i:Int),dotN x.Xa[i] x.Xa[i].Xb[j]++Ql6,QV.mk (j:Int) (ofIx x.Xa[i] x.Xa[i].Xb[j]) x.Xa[i].Xb[j].Hi)]:=by
    unfold fldT;rw[Ze hj]
   rw[e,QH hj (by omega)]
   cases ((x.Xa[i].Xb[j].Xi !=2)&&(x.Xa[i].Xb[j].Xi !=4)) with
   | true=>rw[Zb rfl,Zb rfl];simp
   | false=>
    rw[Zc (show ¬(false=true) by decide),Zc (show ¬(false=true) by decide)];have ho:(if ((x.Xa[i].Xb[j].Xi==(4:Int))&&(x.Xa[i].Xb[j].Of !=([]:Str)))=true then (Qc4 x.Xa[i] x.Xa[i].Xb[j].Of).bind λt49=>some t49 else some (-1:Int))=some (ofIx x.Xa[i] x.Xa[i].Xb[j]):=by
     unfold ofIx;split
     ·unfold Qc4;rw[QcA (by omega)];rfl
     ·rfl
    rw[ho];simp only[Za];rw[Qbj (by simp;omega),Qbj (by simp;omega),Qbj (by simp;omega),Qbj (by simp;omega),Qb4 (by simp;omega)];rfl
 ·simp only[Za,ZV];refine (ZQ (Option.bind · _) (Qdl x.Xc.length (λi=>(rulT x i).map mkD) 1 (λi _=>by rw[Zy];exact QnH x i) _ (λi hi acc hacc=>?_) (λacc=>by rw[Zc (by simp)]))).trans ?_
  ·rw[flat_map',Zy] at hacc;obtain⟨q,hq0,hq,hm⟩:=QmU hc (Ze hi);have hrn:=QkI (hv.rule _ (Zl hi));have hK:=hv.kind _ hm;have hf10:=(Qdj hK).2.1;rw[Zb (by simpa using hi),QY hi];simp only[Za];rw[QdF (by omega)];simp only[Za];rw[hq];simp only[Za];unfold Qc4;rw[Qbj (by simp;omega),QcA (by omega),QcA (by omega)];simp only[Za];rw[Qb4 (by simp;omega),QH hi (by omega)];have e:rulT x i=[(QW x x.Xc[i].Xi,QiA++x.Xc[i].Xj,QV.mk (Qaf q x.Xc[i].A) (Qaf q x.Xc[i].B) x.Xc[i].N)]:=by unfold rulT;rw[Ze hi];dsimp only;rw[hq]
   rw[e];rfl
  ·simp only[Za];rw[flat_map',flat_map',<-Yc];rfl
def Qvw {x:Qe} (hs:Qd8 x) (hc:Qa0 x=[]):QgW x=some ((QkH x).map mkN):=by
 have hv:=QdQ hc;have hk6:=hv.kinds;have hr16:=hv.rules;unfold QgW;have hall:((range x.Xa.length).flatMap (kndT x)).length<=120:=by have h1:=Qci x.Xa.length (kndT x) 20 λj _=>Qkr hv j;omega
 refine (ZQ (Option.bind · _) (Qdl x.Xa.length (λi=>(kndT x i).map mkN) 20 (λi _=>by rw[Zy];exact Qkr hv i) [] (λi hi acc hacc=>?_) (λacc=>by rw[Zc (by simp)]))).trans ?_
 ·simp only[Zi,Nat.zero_add] at hacc;rw[Zb (by simpa using hi),QY hi];have hK:=hv.kind _ (Zl hi);have hf10:=(Qdj hK).2.1;have hnm:=Qh6 hK;simp only[Za];rw[Qdl x.Xa[i].Xb.length (λj=>(fldT i x.Xa[i] j).map mkN) 2 (λj _=>by rw[Zy];exact QnG _ _ _) acc (λj hj p hp=>?_) (λp=>by rw[Zc (by simp)])]
  ·simp only[Za];have e:kndT x i=(range x.Xa[i].Xb.length).flatMap (fldT i x.Xa[i]):=by unfold kndT;rw[Ze hi]
   rw[e,QH hi (by omega),flat_map']
  ·have hfn:=Qhg ((Qdj hK).2.2 _ (Zl hj));rw[Zb (by simpa using hj),QY hj];simp only[Za];have e:fldT i x.Xa[i] j=if ((x.Xa[i].Xb[j].Xi !=2)&&(x.Xa[i].Xb[j].Xi !=4))=true then [] else [((i:Int),dotN x.Xa[i] x.Xa[i].Xb[j]++lowT,QV.mk (ofIx x.Xa[i] x.Xa[i].Xb[j]) (j:Int) (i64.wrap (0 - x.Xa[i].Xb[j].Lo))),((i:Int),dotN x.Xa[i] x.Xa[i].Xb[j]++Ql6,QV.mk (j:Int) (ofIx x.Xa[i] x.Xa[i].Xb[j]) x.Xa[i].Xb[j].Hi)]:=by
    unfold fldT;rw[Ze hj]
   rw[e,QH hj (by omega)]
   cases ((x.Xa[i].Xb[j].Xi !=2)&&(x.Xa[i].Xb[j].Xi !=4)) with
   | true=>rw[Zb rfl,Zb rfl];simp
   | false=>
    rw[Zc (show ¬(false=true) by decide),Zc (show ¬(false=true) by decide)];have ho:(if ((x.Xa[i].Xb[j].Xi==(4:Int))&&(x.Xa[i].Xb[j].Of !=([]:Str)))=true then (Qbu x.Xa[i] x.Xa[i].Xb[j].Of).bind λt57=>some t57 else some (-1:Int))=some (ofIx x.Xa[i] x.Xa[i].Xb[j]):=by
     unfold ofIx;split
     ·rw[Qc1 (by omega)];rfl
     ·rfl
    rw[ho];simp only[Za];rw[Qbj (by simp;omega),Qbj (by simp;omega),Qbj (by simp;omega),Qb4 (by simp;omega),Qbj (by simp;omega),Qb4 (by simp;omega)];simp only[Za];rw[Zu p];rfl
 ·simp only[Za,ZV];refine (ZQ (Option.bind · _) (Qdl x.Xc.length (λi=>(rulT x i).map mkN) 1 (λi _=>by rw[Zy];exact QnH x i) _ (λi hi acc hacc=>?_) (λacc=>by rw[Zc (by simp)]))).trans ?_
  ·rw[flat_map',Zy] at hacc;obtain⟨q,hq0,hq,hm⟩:=QmU hc (Ze hi);have hrn:=QkI (hv.rule _ (Zl hi));have hK:=hv.kind _ hm;have hf10:=(Qdj hK).2.1;rw[Zb (by simpa using hi),QY hi];simp only[Za];rw[Qeg (by omega)];simp only[Za];rw[hq];simp only[Za];rw[Qc1 (by omega),Qc1 (by omega)];simp only[Za];rw[Qbj (by simp;omega),Qb4 (by simp;omega),QH hi (by omega)];have e:rulT x i=[(QW x x.Xc[i].Xi,QiA++x.Xc[i].Xj,QV.mk (Qaf q x.Xc[i].A) (Qaf q x.Xc[i].B) x.Xc[i].N)]:=by unfold rulT;rw[Ze hi];dsimp only;rw[hq]
   rw[e];rfl
  ·simp only[Za];rw[flat_map',flat_map',<-Yc];rfl
def QbC (x:Qe):List Str:=namL x++(QkH x).map λt=>t.2.1
def Qer (x:Qe):List Str×Int:=match Qa0 x with | []=>(QbC x,0) | p::_=>([],p.Code)
def Qks {x:Qe} (hv:Qh4 x):(namL x).length<=132:=by unfold namL;have h1:=Qci x.Xa.length (kndN x) 22 λj _=>(Qlq Qx.mk hv j).2;have:=hv.kinds;omega
def QpB {α:Type} (l:List α) (g:α->Str) (a0:List Str) (h0:a0.length<=1000) (hl:l.length<=1000) {body:Int×List Str->Option ((Int×List Str)⊕List Str)}
  (hs:∀k (h:k<l.length) (acc:List Str),acc.length<=2000->body ((k:Int),acc)=some (.inl (((k+1:Nat):Int),acc++[g l[k]]))) (he:∀acc,body ((l.length:Int),acc)=some (.inr acc)):Qu body ((0:Int),a0)=some (a0++l.map g):=by
 have h:=QeA (body:=body) l.length (λn=>((n:Int),a0++(l.take n).map g)) (a0++l.map g) (λk hk=>?_) ?_
 ·simpa using h
 ·rw[hs k hk _ (by simp;omega),<-QjA g l hk,Zu]
 ·rw[he];simp
def Qtm {x:Qe} (h:Qd8 x):Qed x=some (match Qa0 x with | []=>0 | p::_=>p.Code):=by
 unfold Qed;rw[Qq6 h];simp only[Za]
 cases Qa0 x with
 | nil=>rfl
 | cons p l=>rw[Zb (by simp)];rfl
def QrG {x:Qe} (h:Qd8 x):Qfz x=some (match Qa0 x with | []=>0 | p::_=>p.Code):=by
 unfold Qfz;rw[QpA h];simp only[Za]
 cases Qa0 x with
 | nil=>rfl
 | cons p l=>rw[Yd,Zb (by simp)];rfl
def Qq9 {x:Qe} (h:Qd8 x):Qc5 x=some (Qer x):=by
 unfold Qc5 Qer;rw[Qtm h,Qvu h];unfold limR
 cases hc:Qa0 x with
 | cons p l=>have:=Qi0 (x:=x) (p:=p) (by rw[hc];exact Zp ..);dsimp only[Option.bind_some];rw[Zb (by simpa using this)]
 | nil=>
  have hv:=QdQ hc;dsimp only[Option.bind_some];rw[Zc (by simp),Qw4 h hc];simp only[Za];have h1:=Qks hv;have h2:=Qjw hv;rw[QpB ((QkH x).map mkD) (λt=>t.name) (namL x) (by omega) (by rw[Zy];omega) (λk hk acc ha=>?_) (λacc=>by rw[Zc (by simp)])]
  ·simp only[Za,map_map];rfl
  ·rw[Zb (by simpa using hk),QY hk];simp only[Za];rw[Qb4 (by simp;omega),QH hk (by rw[Zy];omega)];rfl
def QpC {x:Qe} (h:Qd8 x):QfA x=some (Qer x):=by
 unfold QfA Qer;rw[QrG h,Qtl h];unfold limR
 cases hc:Qa0 x with
 | cons p l=>have:=Qi0 (x:=x) (p:=p) (by rw[hc];exact Zp ..);dsimp only[Option.bind_some];rw[Zb (by simpa using this)]
 | nil=>
  have hv:=QdQ hc;dsimp only[Option.bind_some];rw[Zc (by simp),Qvw h hc];simp only[Za];have h1:=Qks hv;have h2:=Qjw hv;rw[QpB ((QkH x).map mkN) (λt=>t.Xj) (namL x) (by omega) (by rw[Zy];omega) (λk hk acc ha=>?_) (λacc=>by rw[Zc (by simp)])]
  ·simp only[Za,map_map];rfl
  ·rw[Zb (by simpa using hk),QY hk];simp only[Za];rw[Qb4 (by simp;omega),QH hk (by rw[Zy];omega)];rfl
section
variable {n:Nat} {P:Qx->Prop} {R:Int->Int->Prop} {E:Int->Prop} {v:List Int}
end
section
variable {n:Nat} {E:Int->Bool} {l:List Qx} {r:List (Int×Int)}
end
def pick (d:List QV) (js:List Nat) (s:Int) (i:Nat):List QV:=(range i).flatMap λ(q:Nat)=>if (q:Int)≠s then [d.getD (js.getD q 0) ⟨0,0,0⟩] else []
inductive Tag where
 | k (i t:Nat)
 | f (i j t:Nat)
 | r (i:Nat)
def Tag.i:Tag->Nat | .k i _=>i | .f i _ _=>i | .r i=>i
def tailT (t:Nat):Str:=if t=0 then Qgw else if t=1 then Qiz else if t=2 then lowT else Ql6
def kAt (x:Qe) (i:Nat):Qf:=x.Xa.getD i ⟨[],0,0,[]⟩
def fAt (x:Qe) (i j:Nat):Qb:=(kAt x i).Xb.getD j QcZ
def rAt (x:Qe) (i:Nat):Qh:=x.Xc.getD i ⟨[],[],[],[],0⟩
def strT (x:Qe):Tag->Str
 | .k i t=>(kAt x i).Xj++tailT t
 | .f i j t=>dotN (kAt x i) (fAt x i j)++tailT t
 | .r i=>QiA++(rAt x i).Xj
def tgR (x:Qe) (i j:Nat):List Tag:=if ((fAt x i j).Xi==1)=true then [.f i j 0,.f i j 1] else []
def tgN (x:Qe) (i j:Nat):List Tag:=if (((fAt x i j).Xi !=2)&&((fAt x i j).Xi !=4))=true then [] else [.f i j 2,.f i j 3]
def Qtn (x:Qe):List Tag:=(range x.Xa.length).flatMap λi=>[.k i 0,.k i 1]++(range (kAt x i).Xb.length).flatMap (tgR x i)
def Qto (x:Qe):List Tag:=(range x.Xa.length).flatMap λi=>(range (kAt x i).Xb.length).flatMap (tgN x i)
def Qtp (x:Qe):List Tag:=(range x.Xc.length).map Tag.r
def Qo4 {x:Qe} {i:Nat} (h:i<x.Xa.length):kAt x i=x.Xa[i]/\x.Xa[i]?=some (kAt x i):=by
 have:kAt x i=x.Xa[i]:=by unfold kAt;rw[Zz,Ze h];rfl
 exact⟨this,by rw[this,Ze h]⟩
def Qo5 {x:Qe} {i j:Nat} (h:j<(kAt x i).Xb.length):fAt x i j=(kAt x i).Xb[j]/\(kAt x i).Xb[j]?=some (fAt x i j):=by
 have:fAt x i j=(kAt x i).Xb[j]:=by unfold fAt;rw[Zz,Ze h];rfl
 exact⟨this,by rw[this,Ze h]⟩
def Qsl {x:Qe} {i:Nat} (h:i<x.Xc.length):rAt x i=x.Xc[i]/\x.Xc[i]?=some (rAt x i):=by
 have:rAt x i=x.Xc[i]:=by unfold rAt;rw[Zz,Ze h];rfl
 exact⟨this,by rw[this,Ze h]⟩
def Qjx {α:Type} {n:Nat} {F G:Nat->List α} (h:∀i,i<n->F i=G i):(range n).flatMap F=(range n).flatMap G:=by
 induction n with
 | zero=>rfl
 | succ n ih=>rw[Yr,Zx,Zx,ih λi hi=>h i (by omega),flatMap_singleton,flatMap_singleton,h n (by omega)]
def Qtq {x:Qe} (hc:Qa0 x=[]):QbC x=(Qtn x++(Qto x++Qtp x)).map (strT x):=by
 unfold QbC;rw[Yc,Yc];unfold QkH;rw[Yc];congr 1
 ·unfold namL Qtn;rw[map_flatMap];refine Qjx λi hi=>?_;obtain⟨_,e⟩:=Qo4 hi;unfold kndN;rw[e];dsimp only;rw[Yc,map_flatMap];congr 1;refine Qjx λj hj=>?_;unfold fldN tgR;rw[(Qo5 hj).2];dsimp only;split<;>rfl
 ·congr 1
  ·unfold Qto;rw[map_flatMap,map_flatMap];refine Qjx λi hi=>?_;obtain⟨_,e⟩:=Qo4 hi;unfold kndT;rw[e];dsimp only;rw[map_flatMap,map_flatMap];refine Qjx λj hj=>?_;unfold fldT tgN;rw[(Qo5 hj).2];dsimp only;split<;>rfl
  ·unfold Qtp;rw[map_flatMap,map_map];have:(range x.Xc.length).map (strT x ∘ Tag.r)=(range x.Xc.length).flatMap λi=>[strT x (Tag.r i)]:=by
    rw[map_eq_flatMap];rfl
   rw[this];refine Qjx λi hi=>?_;obtain⟨e1,e⟩:=Qsl hi;obtain⟨q,_,hq,_⟩:=QmU hc e;unfold rulT;rw[e];dsimp only;rw[hq];rfl
def Qlr {l:List Str} {n:Str} (hl:l.length<=1000000):Qcr l n=some (l.contains n):=by
 unfold Qcr;rw[QbT l (λt=>!(t==n)) true (λk hk=>?_) (by rw[Zc (by simp)])]
 ·have e:l.contains n=!l.all λt=>!(t==n):=by
   rw[contains_eq_any_beq,all_eq_not_any_not,Bool.not_not];congr 1
   funext t
   rw[Bool.eq_iff_iff];simp;exact eq_comm
  rw[e];cases l.all λt=>!(t==n)<;>rfl
 ·rw[Zb (by simpa using hk),QY hk];simp only[Za];rw[QH hk (by omega)];cases l[k]==n<;>rfl
def Qw5 {l:List Str} {n:Str} (hl:l.length<=1000000):Qbv l n=some (match l.findIdx? (λt=>n==t) with | some k=>(k:Int) | none=>-1):=by
 unfold Qbv;rw[Qon l (λt=>n==t) (λk hk=>?_) (by rw[Zc (by simp)])]
 ·cases l.findIdx? (λt=>n==t)<;>rfl
 ·rw[Zb (by simpa using hk),QY hk];simp only[Za];rw[QH hk (by omega)]
section
variable {x:Qe} (hc:Qa0 x=[])
include hc
omit hc in
omit hc in
omit hc in
omit hc in
omit hc in
omit hc in
end
section
variable {n o u:Str} {lo hi:Int}
end
section
variable {x:Qe}
end
structure FR (B:Int) (f g:Qb):Prop where
 name:g.Xj=f.Xj
 of:g.Of=f.Of
 up:g.Up=f.Up
 kind:g.Xi=f.Xi
 words:g.Words=f.Words
 weights:g.Xf=f.Xf
 ref:f.Xi=1->0<=g.Lo/\g.Lo<=g.Hi/\g.Hi<=B
 num:f.Xi=2\/f.Xi=4->-1048576<=g.Lo/\g.Lo<=g.Hi/\g.Hi<=1048576
 same:f.Xi≠1->f.Xi≠2->f.Xi≠4->g=f
def FsR (B:Int) (a b:List Qb):Prop:=b.length=a.length/\∀(j:Nat) (f:Qb),a[j]?=some f->∃g,b[j]?=some g/\FR B f g
structure KR (B:Int) (k q:Qf):Prop where
 name:q.Xj=k.Xj
 span:0<=q.Lo/\q.Lo<=q.Hi/\q.Hi<=B
 fields:FsR B k.Xb q.Xb
def KsR (B:Int) (a b:List Qf):Prop:=b.length=a.length/\∀(j:Nat) (k:Qf),a[j]?=some k->∃q,b[j]?=some q/\KR B k q
def rkey (r:Qh):Str×Str×Str×Str:=(r.Xj,r.Xi,r.A,r.B)
structure NumR (B:Int) (x y:Qe):Prop where
 version:y.Version=x.Version
 lives:y.Xd=x.Xd
 kinds:KsR B x.Xa y.Xa
 rules:(y.Xc.map rkey).Sublist (x.Xc.map rkey)
 ns:∀r∈y.Xc,-1048576<=r.N/\r.N<=1048576
def KsR.back {B:Int} {a b:List Qf} (h:KsR B a b) {q:Qf} (hq:q∈b):∃k∈a,KR B k q:=by
 obtain⟨j,hj,rfl⟩:=Ye hq;have hja:j<a.length:=by rw[<-h.1];exact hj
 obtain⟨q,hq,hr⟩:=h.2 j a[j] (Ze hja);rw[Ze hj] at hq;obtain rfl:=Zq hq;exact⟨_,Zl hja,hr⟩
def FsR.back {B:Int} {a b:List Qb} (h:FsR B a b) {q:Qb} (hq:q∈b):∃k∈a,FR B k q:=by
 obtain⟨j,hj,rfl⟩:=Ye hq;have hja:j<a.length:=by rw[<-h.1];exact hj
 obtain⟨q,hq,hr⟩:=h.2 j a[j] (Ze hja);rw[Ze hj] at hq;obtain rfl:=Zq hq;exact⟨_,Zl hja,hr⟩
def NumR.short {B:Int} {x y:Qe} (h:NumR B x y) (hs:Qd8 x):Qd8 y:=by
 obtain⟨⟨f1,f2⟩,⟨⟨n1,n2⟩,n3,n4⟩,hl,hr⟩:=hs;have hrl:y.Xc.length<=x.Xc.length:=by have:=h.rules.length_le;simpa using this
 refine⟨⟨by rw[h.kinds.1];exact f1,λq hq=>?_⟩,⟨⟨by rw[h.kinds.1];exact n1,λq hq=>?_⟩,by rw[h.lives];exact n3,by omega⟩,by rw[h.lives];exact hl,by omega⟩
 ·obtain⟨k,hk,hkr⟩:=h.kinds.back hq;rw[hkr.fields.1];exact f2 k hk
 ·obtain⟨k,hk,hkr⟩:=h.kinds.back hq;refine⟨by rw[hkr.fields.1];exact (n2 k hk).1,λg hg=>?_⟩;obtain⟨f,hf,hfr⟩:=hkr.fields.back hg;rw[hfr.words,hfr.weights];exact (n2 k hk).2 f hf
def Part {α:Type} (R:α->α->Prop) (a b:List α) (i:Nat):Prop:=b.length=a.length/\(∀(j:Nat) (f:α),a[j]?=some f->j<i->∃g,b[j]?=some g/\R f g)/\∀j:Nat,i<=j->b[j]?=a[j]?
def Part.zero {α:Type} (R:α->α->Prop) (a:List α):Part R a a 0:=⟨rfl,λj f _ h=>by omega,λ_ _=>rfl⟩
def Part.step {α:Type} {R:α->α->Prop} {a b:List α} {i:Nat} (h:Part R a b i) {f g:α} (hf:a[i]?=some f) (hr:R f g):Part R a (b.set i g) (i+1):=by
 have hi:i<b.length:=by rw[h.1];exact (Zf.1 hf).1
 refine⟨by simpa using h.1,λj f' hf' hj=>?_,λj hj=>?_⟩
 ·rw[getElem?_set];by_cases e:i=j
  ·subst e;rw[hf] at hf';obtain rfl:=Zq hf';exact⟨g,by rw[Zb rfl,Zb hi],hr⟩
  ·rw[Zc e];exact h.2.1 j f' hf' (by omega)
 ·rw[getElem?_set,Zc (by omega)];exact h.2.2 j (by omega)
def Part.full {α:Type} {R:α->α->Prop} {a b:List α} {i:Nat} (h:Part R a b i) (hi:a.length<=i):b.length=a.length/\∀(j:Nat) (f:α),a[j]?=some f->∃g,b[j]?=some g/\R f g:=⟨h.1,λj f hf=>h.2.1 j f hf (by have:=(Zf.1 hf).1;omega)⟩
def Part.at {α:Type} {R:α->α->Prop} {a b:List α} {i:Nat} (h:Part R a b i) (hi:i<b.length):∃f,a[i]?=some f/\b[i]?=some f:=by
 have hia:i<a.length:=by rw[<-h.1];exact hi
 exact⟨a[i],Ze hia,by rw[h.2.2 i (Zs _),Ze hia]⟩
def RR (r s:Qh):Prop:=rkey s=rkey r/\-1048576<=s.N/\s.N<=1048576
def Qw6 {x:Qe} {l:List Int} (hs:Qd8 x) (hv:∀k∈x.Xa,k.Xb.length<=1000) (hl:∀z∈l,I64 z):Ok (QgP x l) (NumR 8 x):=by
 have hkl:=hs.few.1;have hrl:=hs.rules;unfold QgP;simp only[ZV,Zi,Nat.zero_add];refine Ok.rm (by omega) ?_;refine Ok.bind (P:=λp:Int×List Qf=>KsR 8 x.Xa p.2) (Ok.loop (λm s=>∃i:Nat,s.1=(i:Int)/\i+m=x.Xa.length/\Part (KR 8) x.Xa s.2.2 i) x.Xa.length ⟨0,rfl,by omega,Part.zero _ _⟩ λm s ⟨i,hi,him,hP⟩=>?_) (λp hp=>?_)
 ·obtain⟨s1,at',L⟩:=s;dsimp only at hi hP ⊢;subst hi;refine Ok.ite (λh=>?_) (λh=>?_)
  ·have hiL:i<L.length:=by simpa using h
   obtain⟨k,hk1,hk2⟩:=hP.at hiL;have hkf:k.Xb.length<=1000:=hv k (Zm hk1);refine Ok.at1 hl (by decide) λt28 a0 a1=>?_;refine Ok.idx a0 a1 λt29 ht29 _=>?_;have h29:0<=t29/\t29<=6:=by simp only[Zo,ZG,ZS] at ht29;omega
   rw[QeY,hk2];simp only[Za];rw[QlV hiL];simp only[Za];refine Ok.at1 hl (by decide) λt44 b0 b1=>?_;rw[QeY,getElem?_set,Zb rfl,Zb hiL];simp only[Za];rw[QlV (by simpa using hiL)];simp only[Za];rw[QeY,hk1];simp only[Za];refine Ok.rm (by omega) ?_;rw[QeY,getElem?_set,Zb rfl,Zb (by simpa using hiL)];simp only[Za];rw[w64 (n:=t29+t44) (by omega) (by omega)];refine Ok.bind (P:=λp:Int×List Qb=>FsR 8 k.Xb p.2) (Ok.loop (λm s=>∃j:Nat,s.1=(j:Int)/\j+m=k.Xb.length/\Part (FR 8) k.Xb s.2.2 j) k.Xb.length ⟨0,rfl,by omega,Part.zero _ _⟩ λm s ⟨j,hj,hjm,hQ⟩=>?_) (λp hp=>?_)
   ·obtain⟨s1,at2,F⟩:=s;dsimp only at hj hQ ⊢;subst hj;refine Ok.ite (λh=>?_) (λh=>?_)
    ·have hjF:j<F.length:=by simpa using h
     obtain⟨f,hf1,hf2⟩:=hQ.at hjF;rw[QeY,hf2];simp only[Za];have hstep:∀g,FR 8 f g->Ok ((setAt F (j:Int) g).bind λt126s=>(some (Sum.inl ((i64.wrap ((j:Int)+(1:Int))),(i64.wrap (at2+(2:Int))),t126s)):Option ((Int×Int×List Qb)⊕(Int×List Qb)))) (λo=>∃s',o=.inl s'/\∃k',k'<m/\∃j:Nat,s'.1=(j:Int)/\j+k'=k.Xb.length/\Part (FR 8) k.Xb s'.2.2 j):=λg hg=>by rw[QlV hjF];exact Ok.mk ⟨_,rfl,m - 1,by have:=hQ.1;omega,j+1,QH (n:=k.Xb.length) (by have:=hQ.1;omega) (by omega),by have:=hQ.1;omega,hQ.step hf1 hg⟩
     by_cases h1:f.Xi=1
     ·rw[Zb (by simpa using h1)];refine Ok.bind (P:=λg:Qb=>FR 8 f g) ?_ (λg hg=>?_)
      ·refine Ok.at1 hl (by decide) λa a0 a1=>Ok.at1 hl (by decide) λb b0 b1=>Ok.mk ?_;rw[w64 (n:=a+b) (by omega) (by omega)];exact⟨rfl,rfl,rfl,rfl,rfl,rfl,λ_=>⟨by dsimp only;omega,by dsimp only;omega,by dsimp only;omega⟩,λh=>by omega,λh=>absurd h1 h⟩
      ·have hgk:g.Xi=1:=hg.kind.trans h1;rw[Zc (by rw[hgk];decide)];simp only[Za];exact (hstep g hg).Xp λo ⟨s',e,ho⟩=>by subst e;exact ho
     ·rw[Zc (by simpa using h1)];simp only[Za];by_cases h24:f.Xi=2\/f.Xi=4
      ·rw[Zb (by simpa using h24)];refine Ok.bind (P:=λg:Qb=>FR 8 f g) ?_ (λg hg=>(hstep g hg).Xp λo ⟨s',e,ho⟩=>by subst e;exact ho);refine Ok.at1 hl (by decide) λa a0 a1=>Ok.at1 hl (by decide) λb b0 b1=>Ok.mk ?_;rw[w64 (n:=a+b) (by omega) (by omega)];exact⟨rfl,rfl,rfl,rfl,rfl,rfl,λh=>absurd h h1,λ_=>⟨by dsimp only;omega,by dsimp only;omega,by dsimp only;omega⟩,λ_ h2 h4=>(h24.elim h2 h4).elim⟩
      ·rw[Zc (by simpa using h24)];simp only[Za];exact (hstep f ⟨rfl,rfl,rfl,rfl,rfl,rfl,λh=>absurd h h1,λh=>absurd h h24,λ_ _ _=>rfl⟩).Xp λo ⟨s',e,ho⟩=>by subst e;exact ho
    ·have hjF:¬j<F.length:=by simpa using h
     exact Ok.mk (hQ.full (by have:=hQ.1;omega))
   ·refine Ok.mk ⟨m - 1,by have:=hP.1;omega,i+1,QH (n:=x.Xa.length) (by have:=hP.1;omega) (by omega),by have:=hP.1;omega,?_⟩;dsimp only;rw[Zr,List.set_set,List.set_set];exact hP.step hk1 ⟨rfl,⟨by dsimp only;omega,by dsimp only;omega,by dsimp only;omega⟩,hp⟩
  ·have hiL:¬i<L.length:=by simpa using h
   exact Ok.mk (hP.full (by have:=hP.1;omega))
 ·refine Ok.rm (by omega) ?_;refine Ok.bind (P:=λp:List Qh=>∃i:Nat,x.Xc.length<=i/\Part RR x.Xc p i) (Ok.loop (λm s=>∃i:Nat,s.1=(i:Int)/\i+m=x.Xc.length/\Part RR x.Xc s.2 i) x.Xc.length ⟨0,rfl,by omega,Part.zero _ _⟩ λm s ⟨i,hi,him,hP⟩=>?_) (λq ⟨i,hi,hq⟩=>?_)
  ·obtain⟨s1,L⟩:=s;dsimp only at hi hP ⊢;subst hi;refine Ok.ite (λh=>?_) (λh=>?_)
   ·have hiL:i<L.length:=by simpa using h
    obtain⟨k,hk1,hk2⟩:=hP.at hiL;refine Ok.at1 hl (by decide) λa a0 a1=>?_;rw[QeY,hk2];simp only[Za];rw[QlV hiL];simp only[Za];rw[w64 (n:=a - 9) (by omega) (by omega)];exact Ok.mk ⟨m - 1,by have:=hP.1;omega,i+1,QH (n:=x.Xc.length) (by have:=hP.1;omega) (by omega),by have:=hP.1;omega,hP.step hk1 ⟨rfl,by dsimp only;omega,by dsimp only;omega⟩⟩
   ·have hiL:¬i<L.length:=by simpa using h
    exact Ok.mk ⟨i,by have:=hP.1;omega,hP⟩
  ·obtain⟨q1,q2⟩:=hq.full hi;refine Ok.mk ⟨rfl,rfl,hp,?_,λr hr=>?_⟩
   ·have:q.map rkey=x.Xc.map rkey:=by
     refine ext_getElem? λj=>?_;rw[Yf,Yf]
     cases hf:x.Xc[j]? with
     | none=>rw[getElem?_eq_none (by rw[q1];exact List.getElem?_eq_none_iff.1 hf)]
     | some r=>obtain⟨g,hg,hr⟩:=q2 j r hf;rw[hg];simp only[ZT,hr.1]
    show (q.map rkey).Sublist (x.Xc.map rkey);rw[this];exact Sublist.refl _
   ·obtain⟨j,hj,rfl⟩:=Ye hr;have hjx:j<x.Xc.length:=by rw[<-q1];exact hj
    obtain⟨g,hg,hr⟩:=q2 j _ (Ze hjx);rw[Ze hj] at hg;obtain rfl:=Zq hg;exact hr.2
def QrH:Qd8 (Qe.mk (0:Int) ([]:(List Qf)) ([]:(List Qs)) ([]:(List Qh))):=⟨⟨by simp,λk hk=>by cases hk⟩,⟨⟨by simp,λk hk=>by cases hk⟩,⟨by simp,λk hk=>by cases hk⟩,by simp⟩,by simp,by simp⟩
def Qvx {l m:List Int} {a h b:Int} (i0:∀x∈l,I64 x) (i1:∀x∈m,I64 x) (i2:I64 a) (i3:I64 h) (i4:I64 b):Ok (Qhu l m a h b) (λr=>r.length=4/\∀z∈r,Qd8 z):=by
 unfold Qhu;refine (Qu5 i0).bind λx hx=>?_;have hxs:=(hx.sz (by decide)).short;refine (Qw6 hxs hxs.few.2 i1).bind λy hy=>?_;refine (QzZ hx (by decide) i2 i3 i4).bind λz hz=>?_;refine Ok.mk ⟨rfl,λw hw=>?_⟩;simp only[Zo,ZG,ZS] at hw;rcases hw with rfl | rfl | rfl | rfl
 ·exact hxs
 ·exact hy.short hxs
 ·exact (hz.sz (by decide)).short
 ·exact QrH
def QAa {l:List Str} {pick:List Int} (hl:l.length<=1000) (hp:∀x∈pick,I64 x):
  Ok (Qu (λ(s9:Int×List Str)=>((if (decide (s9.1<(l.length:Int)))=true then (QbX pick s9.1 (2:Int)).bind λt41=>((if (t41==(1:Int))=true then (idx l s9.1).bind λt46=>(rm (s9.2.length+[t46].length)).bind λ_=>(some (s9.2++[t46])) else (some s9.2))).bind λ(p93:List Str)=>(some (.inl ((i64.wrap (s9.1+(1:Int))),p93))) else (some (.inr s9.2))):Option ((Int×List Str)⊕((List Str))))) ((0:Int),([]:List Str))) (λr=>r.length<=1000):=by
 refine Ok.loop (λm s=>∃i:Nat,s.1=(i:Int)/\i+m=l.length/\s.2.length<=i) l.length ⟨0,rfl,by omega,by simp⟩ λm s ⟨i,hi,him,hP⟩=>?_;obtain⟨s1,L⟩:=s;dsimp only at hi hP ⊢;subst hi;refine Ok.ite (λh=>?_) (λh=>?_)
 ·have hiL:i<l.length:=by simpa using h
  refine Ok.at1 hp (by decide) λt a0 a1=>?_;rw[QH hiL (by omega)];refine Ok.bind (P:=λp:List Str=>p.length<=i+1) (Ok.ite (λ_=>?_) (λ_=>Ok.mk (by omega))) (λp hp=>Ok.mk ⟨m - 1,by omega,i+1,rfl,by omega,hp⟩);rw[QY hiL];simp only[Za];exact Ok.rm (by simp;omega) (Ok.mk (by simp;omega))
 ·have:¬i<l.length:=by simpa using h
  exact Ok.mk (by omega)
def QrI {l:List Qf} {f:Qf->Qf->Option Bool} (hl:l.length<=1000000) (hf:∀x∈l,f x x=some true):QcF l l f=some true:=by
 unfold QcF;rw[Zc (by simp),QbT l (λ_=>true) false (λk hk=>?_) (Zc (by simp))]
 ·rw[Zb (by simp)];rfl
 ·rw[Zb (decide_eq_true (Zv.2 hk)),QY hk];simp only[Za];rw[hf _ (Zl hk),QH hk (by omega)];rfl
def Qra {l:List Qb} {f:Qb->Qb->Option Bool} (hl:l.length<=1000000) (hf:∀x∈l,f x x=some true):Qct l l f=some true:=by
 unfold Qct;rw[Zc (by simp),QbT l (λ_=>true) false (λk hk=>?_) (Zc (by simp))]
 ·rw[Zb (by simp)];rfl
 ·rw[Zb (decide_eq_true (Zv.2 hk)),QY hk];simp only[Za];rw[hf _ (Zl hk),QH hk (by omega)];rfl
def QrJ {l:List Qs} {f:Qs->Qs->Option Bool} (hl:l.length<=1000000) (hf:∀x∈l,f x x=some true):QcG l l f=some true:=by
 unfold QcG;rw[Zc (by simp),QbT l (λ_=>true) false (λk hk=>?_) (Zc (by simp))]
 ·rw[Zb (by simp)];rfl
 ·rw[Zb (decide_eq_true (Zv.2 hk)),QY hk];simp only[Za];rw[hf _ (Zl hk),QH hk (by omega)];rfl
def Qrb {l:List QF} (hl:l.length<=1000000):Qdg l l=some true:=by
 unfold Qdg;rw[Zc (by simp),QbT l (λ_=>true) false (λk hk=>?_) (Zc (by simp))]
 ·rw[Zb (by simp)];rfl
 ·rw[Zb (decide_eq_true (Zv.2 hk)),QY hk];simp only[Za];rw[QH hk (by omega),Zc (by simp[QlF])];simp
def Qrc {l:List Qh} (hl:l.length<=1000000):QdV l l=some true:=by
 unfold QdV;rw[Zc (by simp),QbT l (λ_=>true) false (λk hk=>?_) (Zc (by simp))]
 ·rw[Zb (by simp)];rfl
 ·rw[Zb (decide_eq_true (Zv.2 hk)),QY hk];simp only[Za];rw[QH hk (by omega),Zc (by simp[Qi3])];simp
def Qsm {x:Qe} (h:Fine x):QfD x x=some true:=by
 obtain⟨⟨a1,a2⟩,⟨b1,b2⟩,c⟩:=h;have hf:∀k∈x.Xa,∀f∈k.Xb,QbE f f=some true:=λk hk f hf=>by rw[QmQ ((a2 k hk).2 f hf).1 ((a2 k hk).2 f hf).2];simp[QgD]
 have hk:∀k∈x.Xa,QfB k k=some true:=λk hk=>by unfold QfB;rw[Qra (a2 k hk).1 (hf k hk)];simp[Sim.opt]
 have hl:∀l∈x.Xd,QfC l l=some true:=λl hl=>by unfold QfC;rw[Qq5 (b2 l hl).1,Qrb (b2 l hl).2];simp[Sim.opt]
 unfold QfD;rw[QrI a1 hk,QrJ b1 hl,Qrc c];simp[Sim.opt]
def Qnf:Qe:=Qe.mk (0:Int) ([]:(List Qf)) ([]:(List Qs)) ([]:(List Qh))
def fldO (m:Str->Bool) (q:Str) (f:Qb):Qb:=
 if (f.Xi==(1:Int))=true then Qb.mk f.Xj f.Of f.Up f.Xi (if m (((q++([46]:Str))++f.Xj)++Qgw)=true then f.Lo else (0:Int)) (if m (((q++([46]:Str))++f.Xj)++Qiz)=true then f.Hi else (65536:Int)) f.Words f.Xf
 else if ((f.Xi==(2:Int))||(f.Xi==(4:Int)))=true then Qb.mk f.Xj f.Of f.Up f.Xi (if m (((q++([46]:Str))++f.Xj)++lowT)=true then f.Lo else (-1048576:Int)) (if m (((q++([46]:Str))++f.Xj)++Ql6)=true then f.Hi else (1048576:Int)) f.Words f.Xf
 else f
def kndO (m:Str->Bool) (q:Qf):Qf:=Qf.mk q.Xj (if m (q.Xj++Qgw)=true then q.Lo else (0:Int)) (if m (q.Xj++Qiz)=true then q.Hi else (65536:Int)) (q.Xb.map (fldO m q.Xj))
def schO (m:Str->Bool) (x:Qe):Qe:=Qe.mk x.Version (x.Xa.map (kndO m)) x.Xd (x.Xc.filter λr=>m (QiA++r.Xj))
def QiB (x:Qe) (names:List Str):Qe×Int:=match Qa0 x with
 | []=>if (names.all λn=>(QbC x).contains n)=true then (schO (λn=>names.contains n) x,0) else (Qnf,12)
 | p::_=>(Qnf,p.Code)
def Qw7 {x:Qe} (h:Qd8 x) {names:List Str} (hn:names.length<=1000000):Qhw x names=some (QiB x names):=by
 unfold Qhw QiB;rw[QpC h];unfold Qer
 cases hc:Qa0 x with
 | cons p l=>have:=Qi0 (x:=x) (p:=p) (by rw[hc];exact Zp ..);dsimp only[Option.bind_some];rw[Zb (by simpa using this)];rfl
 | nil=>
  have hv:=QdQ hc;have hk6:=hv.kinds;have hr16:=hv.rules;have hall:(QbC x).length<=1000000:=by have h1:=Qks hv;have h2:=Qjw hv;unfold QbC;rw[Zd,Zy];omega
  dsimp only[Option.bind_some];rw[Zc (by simp),QbT names (λn=>(QbC x).contains n) (12:Int) (λk hk=>?_) (Zc (by simp))]
  ·simp only[Za];by_cases ha:(names.all λn=>(QbC x).contains n)=true
   ·rw[Zb ha,Zb ha];dsimp only;rw[QqZ x.Xa (kndO λn=>names.contains n) (λi hi acc hacc=>?_) (λacc=>Zc (by simp))]
    ·simp only[Za];rw[QrC x.Xc (λr=>names.contains (QiA++r.Xj)) (λi hi acc hacc=>?_) (λacc=>Zc (by simp))]
     ·rfl
     ·have hrn:=QkI (hv.rule _ (Zl hi));rw[Zb (by simpa using hi),QY hi];simp only[Za];rw[Qbj (by simp;omega),Qlr hn,QH hi (by omega)];simp only[Za];rw[Qb4 (by simp;omega)];show ((if names.contains (QiA++x.Xc[i].Xj)=true then some (acc++[x.Xc[i]]) else some acc).bind λp=>some (Sum.inl (((i+1:Nat):Int),p)))=_;cases names.contains (QiA++x.Xc[i].Xj)<;>rfl
    ·have hK:=hv.kind _ (Zl hi);have hf10:=(Qdj hK).2.1;have hnm:=Qh6 hK;rw[Zb (by simpa using hi)];simp only[QY hi,Za];generalize hq:x.Xa[i]=q at *;rw[Qbj (by simp;omega),Qlr hn];simp only[Za];have e1:(if (!names.contains (q.Xj++([32,108,101,97,115,116]:Str)))=true then some (Qf.mk q.Xj (0:Int) q.Hi q.Xb) else some q)=some (Qf.mk q.Xj (if names.contains (q.Xj++Qgw)=true then q.Lo else (0:Int)) q.Hi q.Xb):=by
      show (if (!names.contains (q.Xj++Qgw))=true then some (Qf.mk q.Xj (0:Int) q.Hi q.Xb) else some q)=_;cases names.contains (q.Xj++Qgw)<;>rfl
     rw[e1];simp only[Za];generalize hlo:(if names.contains (q.Xj++Qgw)=true then q.Lo else (0:Int))=lo;rw[Qbj (by simp;omega),Qlr hn];simp only[Za];have e2:(if (!names.contains (q.Xj++([32,109,111,115,116]:Str)))=true then some (Qf.mk q.Xj lo (65536:Int) q.Xb) else some (Qf.mk q.Xj lo q.Hi q.Xb))=some (Qf.mk q.Xj lo (if names.contains (q.Xj++Qiz)=true then q.Hi else (65536:Int)) q.Xb):=by show (if (!names.contains (q.Xj++Qiz))=true then some (Qf.mk q.Xj lo (65536:Int) q.Xb) else some (Qf.mk q.Xj lo q.Hi q.Xb))=_;cases names.contains (q.Xj++Qiz)<;>rfl
     rw[e2];simp only[Za];generalize hhi:(if names.contains (q.Xj++Qiz)=true then q.Hi else (65536:Int))=hi';rw[QqZ q.Xb (fldO (λn=>names.contains n) q.Xj) (λj hj fs hfs=>?_) (λfs=>Zc (by simp))]
     ·simp only[Za];rw[Qb4 (by simp;omega),QH hi (by omega)];simp only[Za];unfold kndO;rw[hlo,hhi]
     ·have hfn:=Qhg ((Qdj hK).2.2 _ (Zl hj));rw[Zb (by simpa using hj)];simp only[QY hj,Za];generalize hf:q.Xb[j]=f at *;rw[Qbj (by simp;omega),Qbj (by simp;omega)];simp only[Za];have hc2:∀t:Str,t.length<=10->cat ((((q.Xj++([46]:Str))++f.Xj)).length+t.length)=some ():=λt ht=>Qbj (by simp;omega);have ho:∀(c:Bool) (u:Unit),opt (c==true) (some u) default=some ():=λc u=>by cases c<;>rfl
      have hs:∀(c:Bool) (t:Str),opt (c==true) (Qcr names t) default=some (if c=true then names.contains t else default):=λc t=>by rw[Qlr hn];cases c<;>rfl
      rw[hc2 _ (by simp),hc2 _ (by simp),hc2 _ (by simp),hc2 _ (by simp)];simp only[ho,hs,Za];have fin:∀p:Qb,p=fldO (λn=>names.contains n) q.Xj f->((rm (fs.length+[p].length)).bind λ_=>some (Sum.inl (i64.wrap ((j:Int)+(1:Int)),fs++[p])))=(some (Sum.inl (((j+1:Nat):Int),fs++[fldO (λn=>names.contains n) q.Xj f])):Option ((Int×List Qb)⊕List Qb)):=λp hp=>by rw[hp,Qb4 (by simp;omega),QH hj (by omega)];rfl
      unfold fldO at fin ⊢;have eL:∀t:Str,((q.Xj++([46]:Str))++f.Xj)++([32,108,101,97,115,116]:Str)=((q.Xj++([46]:Str))++f.Xj)++Qgw:=λ_=>rfl;by_cases k1:(f.Xi==(1:Int))=true
      ·have hk1:f.Xi=1:=by simpa using k1
       have k2:((f.Xi==(2:Int))||(f.Xi==(4:Int)))=false:=by
        have:f.Xi=1:=by simpa using k1
        rw[this];rfl
       simp only[k1,k2,if_true,Bool.true_and,Bool.false_and,ZL,if_false] at fin ⊢;refine Eq.trans ?_ (fin _ rfl);show _=((rm _).bind λ_=>some (Sum.inl (i64.wrap ((j:Int)+(1:Int)),fs++[Qb.mk f.Xj f.Of f.Up f.Xi (if names.contains (((q.Xj++([46]:Str))++f.Xj)++([32,108,101,97,115,116]:Str))=true then f.Lo else (0:Int)) (if names.contains (((q.Xj++([46]:Str))++f.Xj)++([32,109,111,115,116]:Str))=true then f.Hi else (65536:Int)) f.Words f.Xf])));cases names.contains (((q.Xj++([46]:Str))++f.Xj)++([32,108,101,97,115,116]:Str))<;>(cases names.contains (((q.Xj++([46]:Str))++f.Xj)++([32,109,111,115,116]:Str))<;>first | (simp[hk1];done) | (obtain⟨_,_,_,kd,_,_,_,_⟩:=f;obtain rfl:kd=1:=hk1;rfl))
      ·by_cases k2:((f.Xi==(2:Int))||(f.Xi==(4:Int)))=true
       ·have k1':(f.Xi==(1:Int))=false:=by simpa using k1
        simp only[k1',k2,if_true,Bool.true_and,Bool.false_and,ZL,if_false,Za] at fin ⊢;refine Eq.trans ?_ (fin _ rfl);show _=((rm _).bind λ_=>some (Sum.inl (i64.wrap ((j:Int)+(1:Int)),fs++[Qb.mk f.Xj f.Of f.Up f.Xi (if names.contains (((q.Xj++([46]:Str))++f.Xj)++([32,108,111,119]:Str))=true then f.Lo else (-1048576:Int)) (if names.contains (((q.Xj++([46]:Str))++f.Xj)++([32,104,105,103,104]:Str))=true then f.Hi else (1048576:Int)) f.Words f.Xf])));cases names.contains (((q.Xj++([46]:Str))++f.Xj)++([32,108,111,119]:Str))<;>(cases names.contains (((q.Xj++([46]:Str))++f.Xj)++([32,104,105,103,104]:Str))<;>simp[k1'])
       ·have k1':(f.Xi==(1:Int))=false:=by simpa using k1
        have k2':((f.Xi==(2:Int))||(f.Xi==(4:Int)))=false:=by simpa using k2
        simp only[k1',k2',Bool.false_and,ZL,if_false,Za] at fin ⊢;exact fin _ rfl
   ·rw[Zc ha,Zc ha];rfl
  ·rw[Zb (by simpa using hk),QY hk];simp only[Za];rw[Qlr hall,QH hk (by omega)];simp only[Za];cases (QbC x).contains names[k]<;>rfl
def Qrd {α:Type} (l:List α) (g:α->α) {body:Int×List α->Option ((Int×List α)⊕List α)}
  (hs:∀k (h:k<l.length) (acc:List α),acc.length=l.length->acc[k]?=some l[k]->body ((k:Int),acc)=some (.inl (((k+1:Nat):Int),acc.set k (g l[k])))) (he:∀acc,body ((l.length:Int),acc)=some (.inr acc)):
  Qu body ((0:Int),l)=some (l.map g):=by
 have h:=QeA (body:=body) l.length (λn=>((n:Int),(l.take n).map g++l.drop n)) (l.map g) (λk hk=>?_) ?_
 ·simpa using h
 ·have hl:((l.take k).map g).length=k:=by rw[Zy,ZE];omega
  rw[hs k hk _ (by simp;omega) (by rw[ZD (by omega),hl,Nat.sub_self,Yh hk];rfl),set_append_right _ _ (by omega),hl,Nat.sub_self,Yh hk,set_cons_zero,<-QjA g l hk,Zu];rfl
 ·rw[he];simp
def Qw8 (m:List (Str×Bool)) (n s:Str):widB (QhK m n true) s=((s==n)||widB m s):=by
 show (Qfm (QhK m n true) s).getD false=((s==n)||(Qfm m s).getD false);rw[Qe3];by_cases h:s=n
 ·rw[Zb h,h];simp
 ·rw[Zc h,show (s==n)=false by simpa using h];rfl
def QrK {l:List Str} {n:Str} (hl:l.length<=1000000):QbP l n=some (l.contains n):=by
 unfold QbP;rw[Qw5 hl];simp only[Za];have e:l.contains n=(l.findIdx? λt=>n==t).isSome:=by rw[findIdx?_isSome,contains_eq_any_beq]
 rw[e];cases l.findIdx? λt=>n==t<;>simp
def Qw9 {all names:List Str} (ha:all.length<=1000000) (hn:names.length<=1000000):Ok (Qu (λ(s1:Int×List (Str×Bool))=>((if (decide (s1.1<(names.length:Int)))=true then (idx names s1.1).bind λt31=>(QbP all t31).bind λt34=>(if (!t34)=true then some (.inr (.inr ())) else some (.inl (i64.wrap (s1.1+(1:Int)),QhK s1.2 t31 true))) else (some (.inr (.inl s1.2)))):Option ((Int×List (Str×Bool))⊕(List (Str×Bool)⊕Unit)))) ((0:Int),[]))
  (λe=>((names.all λn=>all.contains n)=true/\∃m,e=.inl m/\∀s,widB m s=names.contains s)\/((names.all λn=>all.contains n)=false/\e=.inr ())):=by
 refine Ok.loop (λm s=>∃i:Nat,s.1=(i:Int)/\i+m=names.length/\((names.take i).all λn=>all.contains n)=true/\∀t,widB s.2 t=(names.take i).contains t) names.length ⟨0,rfl,by omega,by simp,λt=>by simp[widB,Qjk,Qfm]⟩ λm s ⟨i,hi,him,h1,h2⟩=>?_;obtain⟨s1,L⟩:=s;dsimp only at hi h2 ⊢;subst hi;by_cases hk:i<names.length
 ·rw[Zb (by simpa using hk),QY hk];simp only[Za];rw[QrK ha,QH hk (by omega)];simp only[Za];by_cases hc:all.contains names[i]=true
  ·rw[hc,Zc (by decide)];refine Ok.mk ⟨m - 1,by omega,i+1,rfl,by omega,?_,λt=>?_⟩
   ·rw[Zn hk,all_append,h1];simpa using hc
   ·rw[Qw8,h2,Bool.eq_iff_iff,ZY,Yo,contains_iff_mem,contains_iff_mem,Zn hk,ZF,Zg,or_comm]
  ·have hc':all.contains names[i]=false:=by simpa using hc
   rw[hc',Zb (by decide)];refine Ok.mk (.inr ⟨?_,rfl⟩);rw[all_eq_false];exact⟨names[i],Zl hk,by rw[hc'];decide⟩
 ·have:i=names.length:=by omega
  subst this;rw[Zc (by simp)];rw[Zt (Zs _)] at h1 h2;exact Ok.mk (.inl ⟨h1,L,rfl,h2⟩)
def QmV {m:List (Str×Bool)} {n l h:Str} {a b lo hi:Int} (h1:n.length<=1000) (h2:l.length<=10) (h3:h.length<=10):QeO m n l h a b lo hi=some (if widB m (n++l)=true then lo else a,if widB m (n++ h)=true then hi else b):=by unfold QeO;rw[Qbj (by omega),Qbj (by omega)];rfl
def Qvy {m:List (Str×Bool)} {q:Str} {fs:List Qb} {j:Nat} {f:Qb} (h1:q.length<=12) (h2:f.Xj.length<=12) (hf:fs[j]?=some f):Qok m q fs (j:Int) f=some (fs.set j (fldO (widB m) q f)):=by
 unfold Qok fldO;rw[Qbj (by simp;omega),Qbj (by simp;omega)];simp only[Za,Zr];rw[QmV (by simp;omega) (by simp) (by simp),QmV (by simp;omega) (by simp) (by simp)];split
 ·rfl
 ·split
  ·rfl
  ·obtain⟨hl,e⟩:=Zf.1 hf;rw[<-e,set_getElem_self]
def Qre {l:List Qh} {f:Qh->Option Bool} {p:Qh->Bool} (hl:l.length<=1000000) (hf:∀r∈l,f r=some (p r)):QaK l f=some (match l.findIdx? p with | some k=>(k:Int) | none=>-1):=by
 unfold QaK;rw[Qon l p (λk hk=>?_) (by rw[Zc (by simp)])]
 ·cases l.findIdx? p<;>rfl
 ·rw[Zb (by simpa using hk),QY hk];simp only[Za];rw[hf _ (Zl hk),QH hk (by omega)];rfl
def del_is {l:List Qh} {f:Qh->Option Bool} {p:Qh->Bool} (hl:l.length<=1000000) (hf:∀r∈l,f r=some (p r)):Qcs l f=some (l.filter λr=>!p r):=by
 unfold Qcs;rw[Qre hl hf];simp only[Za]
 cases hi:l.findIdx? p with
 | none=>rw[Zb (by rfl)];rw[findIdx?_eq_none_iff] at hi;rw[filter_eq_self.2 λr hr=>by simp[hi r hr]]
 | some k=>
  obtain⟨hk,hp,hb⟩:=Ya.1 hi;dsimp only;rw[Zc (by simp),QH hk (by omega)];have key:Ok (Qu (λ(s1:Int×Int×List Qh)=>((if (decide (s1.1<(s1.2.2.length:Int)))=true then (idx s1.2.2 s1.1).bind λt25=>(f t25).bind λt28=>(if (!t28)=true then (setAt s1.2.2 s1.2.1 t25).bind λys=>some (.inl (i64.wrap (s1.1+(1:Int)),i64.wrap (s1.2.1+(1:Int)),ys)) else some (.inl (i64.wrap (s1.1+(1:Int)),s1.2.1,s1.2.2))) else (some (.inr (s1.2.1,s1.2.2)))):Option ((Int×Int×List Qh)⊕(Int×List Qh)))) (((k+1:Nat):Int),(k:Int),l))
    (λe=>∃i:Nat,e.1=(i:Int)/\i<=e.2.length/\e.2.take i=l.filter λr=>!p r):=by
   refine Ok.loop (λm s=>∃j i:Nat,s.1=(j:Int)/\s.2.1=(i:Int)/\j+m=l.length/\i<j/\s.2.2.length=l.length/\s.2.2.take i=(l.take j).filter (λr=>!p r)/\s.2.2.drop j=l.drop j) (l.length - (k+1)) ⟨k+1,k,rfl,rfl,by omega,by omega,rfl,?_,rfl⟩ λm s ⟨j,i,hj,hi',hjm,hij,hlen,h1,h2⟩=>?_
   ·dsimp only;rw[Zn hk,filter_append,filter_eq_self.2 λr hr=>?_]
    ·simp[hp]
    ·obtain⟨n,hn,rfl⟩:=mem_iff_getElem.1 hr;rw[ZE] at hn;rw[getElem_take];have:=hb n (by omega);simpa using this
   ·obtain⟨s1,s2,ys⟩:=s;dsimp only at hj hi' hlen h1 h2 ⊢;subst hj;subst hi';by_cases hjl:j<l.length
    ·have hjy:j<ys.length:=by omega
     have e:ys[j]=l[j]:=by have:=ZQ (λt=>t[0]?) h2;simp only[getElem?_drop,Nat.add_zero,Ze hjl,Ze hjy] at this;exact Zq this
     rw[Zb (by simpa using hjy),QY hjy,e];simp only[Za];rw[hf _ (Zl hjl),QH hjl (by omega),QH (show i<l.length by omega) (by omega)];simp only[Za]
     cases hq:p l[j] with
     | true=>
      rw[Zc (by decide)];refine Ok.mk ⟨m - 1,by omega,j+1,i,rfl,rfl,by omega,by omega,hlen,?_,?_⟩
      ·rw[h1,Zn hjl,filter_append];simp[hq]
      ·have:=ZQ (drop 1) h2;simpa[drop_drop] using this
     | false=>
      rw[Zb (by decide)];refine Ok.setAt (by omega) (by omega) (Ok.mk ⟨m - 1,by omega,j+1,i+1,rfl,rfl,by omega,by omega,by simpa using hlen,?_,?_⟩)
      ·simp only[Zr];rw[Zn (by simp;omega),getElem_set_self,take_set_of_le (by omega),h1,Zn hjl,filter_append];simp[hq]
      ·simp only[Zr];rw[drop_set_of_lt (by omega)];have:=ZQ (drop 1) h2;simpa[drop_drop] using this
    ·have:j=l.length:=by omega
     subst this;rw[Zc (by simp;omega)];rw[Zt (Zs _)] at h1;exact Ok.mk ⟨i,rfl,by show i<=ys.length;omega,h1⟩
  obtain⟨⟨e1,ys⟩,he,i,hi1,hi2,hi3⟩:=key;rw[he];dsimp only at hi1 hi2 hi3;subst hi1;simp only[Za];have s1:sub ys (i:Int) (ys.length:Int)=some (ys.drop i):=by unfold sub;rw[Zb ⟨by omega,by omega,ZM _⟩];simp only[Zr];rw[Zt (by simp)]
  have s2:sub ys 0 (i:Int)=some (ys.take i):=by unfold sub;rw[Zb ⟨by omega,by omega,by omega⟩];simp
  rw[s1,s2,hi3];rfl
def Qsn {x:Qe} (h:Qd8 x) {names:List Str} (hn:names.length<=1000000):Qhb x names=some (QiB x names):=by
 unfold Qhb QiB;rw[Qq9 h];unfold Qer
 cases hc:Qa0 x with
 | cons p l=>have:=Qi0 (x:=x) (p:=p) (by rw[hc];exact Zp ..);dsimp only[Option.bind_some];rw[Zb (by simpa using this)];rfl
 | nil=>
  have hv:=QdQ hc;have hk6:=hv.kinds;have hr16:=hv.rules;have hall:(QbC x).length<=1000000:=by have h1:=Qks hv;have h2:=Qjw hv;unfold QbC;rw[Zd,Zy];omega
  dsimp only[Option.bind_some];rw[Zc (by simp)];obtain⟨e,he,hq⟩:=Qw9 hall hn;rw[he];simp only[Za];rcases hq with⟨ha,m,rfl,hm⟩ | ⟨ha,rfl⟩
  ·rw[Zb ha];have hm':(λn=>names.contains n)=widB m:=funext λs=>(hm s).symm;rw[hm'];dsimp only;unfold Qe9 Qfa;rw[Qb4 (by simp;omega),Qb4 (by simp;omega)];simp only[Za,ZV];rw[Qrd x.Xa (kndO (widB m)) (λi hi acc hacc hai=>?_) (λacc=>Zc (by simp))]
   ·simp only[Za];rw[del_is (p:=λr=>!widB m (QiA++r.Xj)) (by omega) (λr hr=>?_)]
    ·simp only[Za,Bool.not_not];rfl
    ·unfold Qik;have hrn:=QkI (hv.rule _ hr);rw[Qbj (by simp;omega)];rfl
   ·have hK:=hv.kind _ (Zl hi);have hf10:=(Qdj hK).2.1;have hnm:=Qh6 hK;have hF:=(Qdj hK).2.2;rw[Zb (by simpa using hi)];have hix:idx acc (i:Int)=some x.Xa[i]:=by rw[QeY,hai]
    rw[hix];simp only[Za];generalize x.Xa[i]=q at *;rw[QmV (by omega) (by simp) (by simp)];unfold QeV;rw[Qb4 (by simp;omega)];simp only[Za,ZV];rw[Qrd q.Xb (fldO (widB m) q.Xj) (λj hj fs hfs hfj=>?_) (λfs=>Zc (by simp))]
    ·simp only[Za,Zr];rw[List.set_set,QH hi (by omega)];rfl
    ·have hfn:=Qhg (hF _ (Zl hj));rw[Zb (by simpa using hj)];have hjx:idx fs (j:Int)=some q.Xb[j]:=by rw[QeY,hfj]
     rw[hjx];simp only[Za];rw[Qvy (by omega) (by omega) hfj,QH hj (by omega)];rfl
  ·rw[Zc (by rw[ha];decide)];rfl
def Qxa {m:Str->Bool} {q:Str} {f:Qb} (h1:(f.Xi==(1:Int))=true->m (((q++([46]:Str))++f.Xj)++Qgw)=true/\m (((q++([46]:Str))++f.Xj)++Qiz)=true)
  (h2:((f.Xi==(2:Int))||(f.Xi==(4:Int)))=true->m (((q++([46]:Str))++f.Xj)++lowT)=true/\m (((q++([46]:Str))++f.Xj)++Ql6)=true):fldO m q f=f:=by
 unfold fldO;split
 ·rename_i h;rw[Zb (h1 h).1,Zb (h1 h).2]
 ·split
  ·rename_i h;rw[Zb (h2 h).1,Zb (h2 h).2]
  ·rfl
def Qrf {x:Qe} (hc:Qa0 x=[]) {t:Tag} (h:t∈Qtn x++(Qto x++Qtp x)):(QbC x).contains (strT x t)=true:=by rw[Qtq hc,contains_iff_mem];exact mem_map_of_mem h
def Qxb {x:Qe} (hc:Qa0 x=[]):schO (λn=>(QbC x).contains n) x=x:=by
 have hA:∀i,i<x.Xa.length->∀t∈([.k i 0,.k i 1]++(range (kAt x i).Xb.length).flatMap (tgR x i):List Tag),(QbC x).contains (strT x t)=true:=λi hi t ht=>Qrf hc (mem_append_left _ (ZZ.2 ⟨i,Yp.2 hi,ht⟩));have hB:∀i,i<x.Xa.length->∀t∈(range (kAt x i).Xb.length).flatMap (tgN x i),(QbC x).contains (strT x t)=true:=λi hi t ht=>Qrf hc (mem_append_right _ (mem_append_left _ (ZZ.2 ⟨i,Yp.2 hi,ht⟩)));have hC:∀i,i<x.Xc.length->(QbC x).contains (strT x (.r i))=true:=λi hi=>Qrf hc (mem_append_right _ (mem_append_right _ (ZJ.2 ⟨i,Yp.2 hi,rfl⟩)));have hk:x.Xa.map (kndO λn=>(QbC x).contains n)=x.Xa:=by
  apply ext_getElem (by simp);intro i h1 h2;rw[getElem_map];have e:=(Qo4 h2).1;have a0:(QbC x).contains ((kAt x i).Xj++Qgw)=true:=hA i h2 (.k i 0) (by simp);have a1:(QbC x).contains ((kAt x i).Xj++Qiz)=true:=hA i h2 (.k i 1) (by simp);have hf:x.Xa[i].Xb.map (fldO (λn=>(QbC x).contains n) x.Xa[i].Xj)=x.Xa[i].Xb:=by
   apply ext_getElem (by simp);intro j g1 g2;rw[getElem_map];have g3:j<(kAt x i).Xb.length:=by rw[e];exact g2
   have e2:fAt x i j=x.Xa[i].Xb[j]:=by rw[(Qo5 g3).1];simp only[e]
   refine Qxa (λhk=>?_) (λhk=>?_)
   ·have hm:∀t∈([.f i j 0,.f i j 1]:List Tag),t∈([.k i 0,.k i 1]++(range (kAt x i).Xb.length).flatMap (tgR x i):List Tag):=λt ht=>
     mem_append_right _ (ZZ.2 ⟨j,Yp.2 g3,by unfold tgR;rw[e2,Zb hk];exact ht⟩)
    have b0:(QbC x).contains ((((kAt x i).Xj++([46]:Str))++(fAt x i j).Xj)++Qgw)=true:=hA i h2 _ (hm (.f i j 0) (by simp));have b1:(QbC x).contains ((((kAt x i).Xj++([46]:Str))++(fAt x i j).Xj)++Qiz)=true:=hA i h2 _ (hm (.f i j 1) (by simp));rw[e,e2] at b0 b1;exact⟨b0,b1⟩
   ·have hk':((x.Xa[i].Xb[j].Xi !=2)&&(x.Xa[i].Xb[j].Xi !=4))=false:=by
     rw[ZY] at hk;rcases hk with hk | hk
     ·simp only[bne,hk];rfl
     ·simp only[bne,hk];simp
    have hm:∀t∈([.f i j 2,.f i j 3]:List Tag),t∈(range (kAt x i).Xb.length).flatMap (tgN x i):=λt ht=>ZZ.2 ⟨j,Yp.2 g3,by unfold tgN;rw[e2,Zc (by rw[hk'];decide)];exact ht⟩;have b0:(QbC x).contains ((((kAt x i).Xj++([46]:Str))++(fAt x i j).Xj)++lowT)=true:=hB i h2 _ (hm (.f i j 2) (by simp));have b1:(QbC x).contains ((((kAt x i).Xj++([46]:Str))++(fAt x i j).Xj)++Ql6)=true:=hB i h2 _ (hm (.f i j 3) (by simp));rw[e,e2] at b0 b1;exact⟨b0,b1⟩
  rw[e] at a0 a1;unfold kndO;rw[hf,Zb a0,Zb a1]
 have hr:(x.Xc.filter λr=>(QbC x).contains (QiA++r.Xj))=x.Xc:=by rw[filter_eq_self];intro r hr;obtain⟨i,hi,rfl⟩:=mem_iff_getElem.1 hr;have:(QbC x).contains (QiA++(rAt x i).Xj)=true:=hC i hi;rw[(Qsl hi).1] at this;exact this
 unfold schO;rw[hk,hr]
def Qvz {x:Qe} (h:Qd8 x) (names:List Str):Fine (QiB x names).1:=by
 have hz:Fine Qnf:=⟨⟨by simp[Qnf],λk hk=>by cases hk⟩,⟨by simp[Qnf],λk hk=>by cases hk⟩,by simp[Qnf]⟩;unfold QiB;split
 ·split
  ·obtain⟨⟨a1,a2⟩,b,c⟩:=h.fine;refine⟨⟨by show (x.Xa.map _).length<=_;rw[Zy];exact a1,λk hk=>?_⟩,b,Yg (length_filter_le _ _) c⟩;obtain⟨q,hq,rfl⟩:=ZJ.1 hk;obtain⟨f1,f2⟩:=a2 q hq;refine⟨by show (q.Xb.map _).length<=_;rw[Zy];exact f1,λf hf=>?_⟩;obtain⟨g,hg,rfl⟩:=ZJ.1 hf;have:=f2 g hg;unfold fldO;split
   ·exact this
   ·split
    ·exact this
    ·exact this
  ·exact hz
 ·exact hz
def Qtr (x:Qe):(Qer x).1.length<=1000:=by
 unfold Qer
 cases hc:Qa0 x with
 | nil=>have hv:=QdQ hc;have h1:=Qks hv;have h2:=Qjw hv;show (QbC x).length<=1000;unfold QbC;rw[Zd,Zy];omega
 | cons p l=>simp
def Qxc {x:Qe}:(QiB x (Qer x).1).2=0->(QiB x (Qer x).1).1=x:=by
 unfold QiB Qer
 cases hc:Qa0 x with
 | nil=>dsimp only;rw[Zb (by rw[Zw];intro n hn;simpa using hn)];intro _;exact Qxb hc
 | cons p l=>have:=Qi0 (x:=x) (p:=p) (by rw[hc];exact Zp ..);intro h;exact (this h).elim
def Qo6 (l m pick:List Int) (a h b:Int) (name:Str) (i0:∀x∈l,I64 x) (i1:∀x∈m,I64 x) (i2:∀x∈pick,I64 x) (i3:I64 a) (i4:I64 h) (i5:I64 b):QeQ l m pick a h b name=some true:=by
 have key:Ok (QeQ l m pick a h b name) (λr=>r=true):=by
  unfold QeQ;refine (Qvx i0 i1 i3 i4 i5).bind λC ⟨hCn,hCs⟩=>?_;rw[QbT C (λ_=>true) false (λj hj=>?_) (Zc (by rw[hCn];simp))]
  ·rw[Zb (by simp)];show Ok (QeP.bind λt83=>some t83) _;rw[Qtk];exact Ok.mk rfl
  ·rw[Zb rfl,Zb (by simpa using hj),QY hj];have hz:=hCs _ (Zl hj);generalize C[j]=x at hz;have hnl:=Qtr x;simp only[Za,Qq9 hz,QpC hz];rw[bne_self_eq_false,Qo3 (by omega)];simp only[opt,beq_self_eq_true,if_true,Za,Bool.not_true,Bool.or_self,ZL,if_false];have hpt:=QAa (l:=(Qer x).1) (pick:=pick) (by omega) i2;obtain⟨part,hpe,hpl⟩:=hpt;rw[hpe];simp only[Za,ZV,Zi,Nat.zero_add];rw[Qb4 (by omega),Qb4 (by omega)];simp only[Za];have base:∀s∈[part,(Qer x).1,([]:(List Str)),[name],part++part],s.length<=1000000:=λs hs=>by
    simp only[Zo,ZG,ZS] at hs;rcases hs with rfl | rfl | rfl | rfl | rfl<;>(try simp only[Zd,Zh,Zi])<;>omega
   rw[QbT [part,(Qer x).1,([]:(List Str)),[name],part++part] (λ_=>true) false (λk hk=>?_) (Zc (by simp))]
   ·rw[Zb (by simp)];simp only[Za];rw[Qsn hz (by omega)];simp only[Za];by_cases h0:(QiB x (Qer x).1).2=0
    ·rw[h0,Qxc h0];simp only[beq_self_eq_true,if_true,Za];rw[Qsm hz.fine,QH hj (by omega)];simp
    ·have h1:((QiB x (Qer x).1).2==(0:Int))=false:=by simpa using h0
     rw[h1,QH hj (by omega)];simp
   ·rw[Zb rfl,Zb (decide_eq_true (Zv.2 hk)),QY hk];simp only[Za];have hb:=base _ (Zl hk);rw[Qsn hz hb,Qw7 hz hb];simp only[Za];rw[bne_self_eq_false,Qsm (Qvz hz _),QH hk (by simp)];simp
 obtain⟨r,hr,rfl⟩:=key;exact hr

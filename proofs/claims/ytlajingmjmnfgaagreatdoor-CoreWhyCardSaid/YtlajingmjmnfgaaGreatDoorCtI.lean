/- CountsLimits. No condition. -/
import Derived.Test.YtlajingmjmnfgaaGreatDoorTyN
import Derived.Test.YtlajingmjmnfgaaGreatDoorEvalA
set_option linter.all false
open List Go.IntKind
namespace Go.Proofs.YtlajingmjmnfgaaGreatDoor
noncomputable section
open Go.Sim
def QkQ {β γ:Type} (n:Nat) (g:Nat->List β) (h:Nat->List γ) (B:Nat) (hB:∀k,k<n->(g k).length<=B/\(h k).length<=B) (a0:List β) (b0:List γ) {body:Int×List β×List γ->Option ((Int×List β×List γ)⊕(List β×List γ))}
  (hs:∀k,k<n->∀(p:List β) (q:List γ),p.length<=a0.length+k * B->q.length<=b0.length+k * B->body ((k:Int),p,q)=some (.inl (((k+1:Nat):Int),p++g k,q++ h k))) (he:∀p q,body ((n:Int),p,q)=some (.inr (p,q))):
  Qm body ((0:Int),a0,b0)=some (a0++(range n).flatMap g,b0++(range n).flatMap h):=by
 have hlen:∀m,m<=n->((range m).flatMap g).length<=m * B/\((range m).flatMap h).length<=m * B:=λm hm=>⟨Qa7 m g B λk hk=>(hB k (by omega)).1,Qa7 m h B λk hk=>(hB k (by omega)).2⟩;have key:=QbZ (body:=body) n (λm=>((m:Int),a0++(range m).flatMap g,b0++(range m).flatMap h)) (a0++(range n).flatMap g,b0++(range n).flatMap h) (λk hk=>?_) ?_
 ·simpa using key
 ·have:=hlen k (by omega);rw[hs k hk _ _ (by rw[Ze];omega) (by rw[Ze];omega),ZX,ZF,ZF];simp
 ·rw[he]
def Qwn:Str:=[32,108,101,97,115,116]
def mostT:Str:=[32,109,111,115,116]
section
variable {τ:Type} (mk:Int->Int->Int->Bool->τ)
def Qg1 (i j lo hi:Int):List τ:=[mk i j lo true,mk i j hi false]
def fldL (x:Qb) (i:Nat) (q:Qi) (j:Nat):List τ:=match q.Xb[j]? with | some f=>if (f.Xi==1)=true then Qg1 mk (i:Int) (QQ x f.Of) f.Lo f.Hi else [] | none=>[]
def kndL (x:Qb) (i:Nat):List τ:=match x.Xa[i]? with | some q=>Qg1 mk (i:Int) (-1) q.Lo q.Hi++(range q.Xb.length).flatMap (fldL mk x i q) | none=>[]
def limL (x:Qb):List τ:=(range x.Xa.length).flatMap (kndL mk x)
end
def Qh1 (s:Str):List Str:=[s++Qwn,s++mostT]
def fldN (q:Qi) (j:Nat):List Str:=match q.Xb[j]? with | some f=>if (f.Xi==1)=true then Qh1 ((q.Xj++[46])++f.Xj) else [] | none=>[]
def kndN (x:Qb) (i:Nat):List Str:=match x.Xa[i]? with | some q=>Qh1 q.Xj++(range q.Xb.length).flatMap (fldN q) | none=>[]
def namL (x:Qb):List Str:=(range x.Xa.length).flatMap (kndN x)
def Qmp {τ:Type} (mk:Int->Int->Int->Bool->τ) (x:Qb) (i:Nat) (q:Qi) (j:Nat):(fldL mk x i q j).length<=2/\(fldN q j).length<=2:=by
 unfold fldL fldN
 cases q.Xb[j]? with
 | none=>simp
 | some f=>dsimp only;constructor<;>split<;>simp[Qg1,Qh1]
def QiU {τ:Type} (mk:Int->Int->Int->Bool->τ) {x:Qb} (hv:Qe6 x) (i:Nat):(kndL mk x i).length<=22/\(kndN x i).length<=22:=by
 unfold kndL kndN
 cases hq:x.Xa[i]? with
 | none=>simp
 | some q=>have hf:=(QbW (hv.kind q (Zr hq))).2.1;have h1:=Qa7 q.Xb.length (fldL mk x i q) 2 λj _=>(Qmp mk x i q j).1;have h2:=Qa7 q.Xb.length (fldN q) 2 λj _=>(Qmp mk x i q j).2;simp only[Ze,Qg1,Qh1,Zj,Zl];omega
def Qgt {x:Qb} {p:QB} (h:p∈QZ x):p.Code≠0:=by
 have hp:∀{k j r e:Int},p∈prob k j r e->p.Code≠0:=λ{k j r e} h=>by
  unfold prob at h;split at h
  ·cases h
  ·rw[Zh.1 h];assumption
 unfold QZ at h;split at h
 ·simp only[Zt] at h;rcases h with (h | h) | h
  ·obtain⟨i,_,h⟩:=ZM.1 h;unfold QfZ at h;split at h
   ·exact hp h
   ·cases h
  ·obtain⟨i,_,h⟩:=ZM.1 h;unfold QeK at h;split at h
   ·rcases Zt.1 h with h | h
    ·exact hp h
    ·obtain⟨j,_,h⟩:=ZM.1 h;unfold Qgr at h;split at h
     ·exact hp h
     ·cases h
   ·cases h
  ·obtain⟨i,_,h⟩:=ZM.1 h;unfold QiC at h;split at h
   ·exact hp h
   ·cases h
 ·rw[Zh.1 h];assumption
def Qan {x:Qb} (h:QZ x=[]):Qe6 x:=by
 unfold QZ at h;by_cases hv:QfI x=0
 ·unfold QfI at hv;by_cases hs:QgW x=true
  ·exact Qjy hs
  ·rw[Zd hs] at hv;cases hv
 ·rw[Zd hv] at h;cases h
def QjB {q:Qi} (h:Qdq q=true):q.Xj.length<=12:=by simp only[Qdq,Zi] at h;exact Qbw h.1.1.1
def QiE {f:Qd} (h:QaG f=true):f.Xj.length<=12:=by simp only[QaG,Zi] at h;exact Qbw h.1.1
def QcD {n:Nat} (h:n<=1000000):cat n=some ():=by unfold cat;rw[Zc (by omega)]
def add13 {s:Str} {a b lo hi:Int} {c0:List Qk} {c1:List Str} (hs:s.length<=1000) (h0:c0.length<=1000000) (h1:c1.length<=1000000):
  Qc3 s a b lo hi c0 c1=some (c0++Qg1 Qk.mk a b lo hi,c1++Qh1 s):=by
 unfold Qc3;rw[QaT (by simp;omega),QcD (by simp;omega),QcD (by simp;omega),QaT (by simp;omega)];rfl
def Qyo {x:Qb} (h:Qb4 x):Qfy x=some (match QZ x with | []=>0 | p::_=>p.Code):=by
 unfold Qfy;rw[Qrb h];simp only[Za]
 cases QZ x with
 | nil=>rfl
 | cons p l=>rw[Zc (by simp)];rfl
def limR {τ:Type} (mk:Int->Int->Int->Bool->τ) (x:Qb):List τ×List Str×Int:=match QZ x with | []=>(limL mk x,namL x,0) | p::_=>([],[],p.Code)
def Qpv {x:Qb} (h:Qb4 x):QdQ x=some (limR Qk.mk x):=by
 unfold QdQ limR;rw[Qyo h];simp only[Za]
 cases hc:QZ x with
 | cons p l=>have:=Qgt (x:=x) (p:=p) (by rw[hc];exact Zn ..);dsimp only;rw[Zc (by simpa using this)]
 | nil=>
  have hv:=Qan hc;have hk:=hv.kinds;dsimp only;rw[Zd (by simp)];refine (Ya (Option.bind · _) (QkQ x.Xa.length (kndN x) (kndL Qk.mk x) 22 (λi _=>⟨(QiU Qk.mk hv i).2,(QiU Qk.mk hv i).1⟩) [] [] (λi hi p q hp hq=>?_) (λp q=>by rw[Zd (by simp)]))).trans ?_
  ·simp only[Zl,Nat.zero_add] at hp hq;have hib:i * 22<=132:=by omega
   rw[Zc (by simpa using hi),QI hi];have hK:=hv.kind _ (Zk hi);have hf10:=(QbW hK).2.1;have hnm:=QjB hK;simp only[Za];rw[add13 (by omega) (by omega) (by omega)];simp only[Za];rw[QkQ x.Xa[i].Xb.length (fldL Qk.mk x i x.Xa[i]) (fldN x.Xa[i]) 2 (λj _=>Qmp _ _ _ _ _) _ _ (λj hj p' q' hp' hq'=>?_) (λp' q'=>by rw[Zd (by simp)])]
   ·simp only[Za];have e1:kndL Qk.mk x i=Qg1 Qk.mk (i:Int) (-1) x.Xa[i].Lo x.Xa[i].Hi++(range x.Xa[i].Xb.length).flatMap (fldL Qk.mk x i x.Xa[i]):=by unfold kndL;rw[Zb hi]
    have e2:kndN x i=Qh1 x.Xa[i].Xj++(range x.Xa[i].Xb.length).flatMap (fldN x.Xa[i]):=by unfold kndN;rw[Zb hi]
    rw[e1,e2,Qw hi (by omega),ZA,ZA]
   ·simp only[Ze,Qg1,Qh1,Zj,Zl] at hp' hq';have hfn:=QiE ((QbW hK).2.2 _ (Zk hj));rw[Zc (by simpa using hj),QI hj];simp only[Za];have e1:fldL Qk.mk x i x.Xa[i] j=if (x.Xa[i].Xb[j].Xi==1)=true then Qg1 Qk.mk (i:Int) (QQ x x.Xa[i].Xb[j].Of) x.Xa[i].Xb[j].Lo x.Xa[i].Xb[j].Hi else []:=by unfold fldL;rw[Zb hj]
    have e2:fldN x.Xa[i] j=if (x.Xa[i].Xb[j].Xi==1)=true then Qh1 ((x.Xa[i].Xj++[46])++x.Xa[i].Xb[j].Xj) else []:=by unfold fldN;rw[Zb hj]
    rw[e1,e2,Qw hj (by omega)]
    cases (x.Xa[i].Xb[j].Xi==1) with
    | false=>simp
    | true=>rw[Zc rfl,Zc rfl,Zc rfl,QcD (by simp;omega),QcD (by simp;omega),Qc8 (by omega)];simp only[Za];rw[add13 (by simp;omega) (by omega) (by omega)];rfl
  ·rfl
def QiF {x:Qb} (h:Qb4 x):QcV x=some (limR Qv.mk x):=by
 unfold QcV limR;rw[Qpu h];simp only[Za]
 cases hc:QZ x with
 | cons p l=>rw[Zc (by simp)];rfl
 | nil=>
  have hv:=Qan hc;have hk:=hv.kinds;rw[Zd (by simp)];refine (Ya (Option.bind · _) (QkQ x.Xa.length (kndN x) (kndL Qv.mk x) 22 (λi _=>⟨(QiU Qv.mk hv i).2,(QiU Qv.mk hv i).1⟩) [] [] (λi hi p q hp hq=>?_) (λp q=>by rw[Zd (by simp)]))).trans ?_
  ·simp only[Zl,Nat.zero_add] at hp hq;have hib:i * 22<=132:=by omega
   rw[Zc (by simpa using hi),QI hi];have hK:=hv.kind _ (Zk hi);have hf10:=(QbW hK).2.1;have hnm:=QjB hK;simp only[Za];rw[QaT (by simp;omega),QcD (by simp;omega),QcD (by simp;omega),QaT (by simp;omega)];simp only[Za];rw[QkQ x.Xa[i].Xb.length (fldL Qv.mk x i x.Xa[i]) (fldN x.Xa[i]) 2 (λj _=>Qmp _ _ _ _ _) _ _ (λj hj p' q' hp' hq'=>?_) (λp' q'=>by rw[Zd (by simp)])]
   ·simp only[Za];have e1:kndL Qv.mk x i=Qg1 Qv.mk (i:Int) (-1) x.Xa[i].Lo x.Xa[i].Hi++(range x.Xa[i].Xb.length).flatMap (fldL Qv.mk x i x.Xa[i]):=by unfold kndL;rw[Zb hi]
    have e2:kndN x i=Qh1 x.Xa[i].Xj++(range x.Xa[i].Xb.length).flatMap (fldN x.Xa[i]):=by unfold kndN;rw[Zb hi]
    rw[e1,e2,Qw hi (by omega),ZA,ZA];rfl
   ·simp only[Ze,Zj,Zl] at hp' hq';have hfn:=QiE ((QbW hK).2.2 _ (Zk hj));rw[Zc (by simpa using hj),QI hj];simp only[Za];have e1:fldL Qv.mk x i x.Xa[i] j=if (x.Xa[i].Xb[j].Xi==1)=true then Qg1 Qv.mk (i:Int) (QQ x x.Xa[i].Xb[j].Of) x.Xa[i].Xb[j].Lo x.Xa[i].Xb[j].Hi else []:=by unfold fldL;rw[Zb hj]
    have e2:fldN x.Xa[i] j=if (x.Xa[i].Xb[j].Xi==1)=true then Qh1 ((x.Xa[i].Xj++[46])++x.Xa[i].Xb[j].Xj) else []:=by unfold fldN;rw[Zb hj]
    rw[e1,e2,Qw hj (by omega)]
    cases (x.Xa[i].Xb[j].Xi==1) with
    | false=>simp
    | true=>rw[Zc rfl,Zc rfl,Zc rfl,Qdz (by omega)];simp only[Za];rw[QaT (by simp;omega),QcD (by simp;omega),QcD (by simp;omega),QcD (by simp;omega),QcD (by simp;omega),QaT (by simp;omega)];rfl
  ·rfl
def Qmq (l:Qk):Qv:=⟨l.A,l.B,l.Mul,l.Xh⟩
def QoS (x:Qb):(limL Qk.mk x).map Qmq=limL Qv.mk x:=by
 unfold limL;rw[map_flatMap];congr 1
 funext i
 unfold kndL
 cases x.Xa[i]? with
 | none=>rfl
 | some q=>
  dsimp only;rw[ZT,map_flatMap];congr 1;congr 1
  funext j
  unfold fldL
  cases q.Xb[j]? with
  | none=>rfl
  | some f=>dsimp only;split<;>rfl
def QoT {a:List Str} (ha:a.length<=1000000):Qd9 a a=some true:=by
 unfold Qd9;rw[Zd (by simp),QcM a (λ_=>true) false (λk hk=>?_) (Zd (by simp))]
 ·rw[Zc (by simp)];rfl
 ·rw[Zc rfl,Zc (by simpa using hk),QI hk];simp only[Za];rw[Zd (by simp),Qw hk (by omega)]
def QkR {k j r e:Int} (h:prob k j r e=[]):e=0:=by
 unfold prob at h;split at h
 ·assumption
 ·cases h
def Qt5 {x:Qb} (hc:QZ x=[]) {k j:Int} {q:Qi} {f:Qd} (hq:idx x.Xa k=some q) (hf:field? x k j=some f):Qhy x q k j f=0:=by
 obtain⟨q',hk,hj,hq',hqf,_,hkl,hjl⟩:=QbM hf;rw[hq] at hq';cases hq';obtain⟨i,rfl⟩:=Zy hk;obtain⟨n,rfl⟩:=Zy hj;rw[Qc6] at hq hqf;unfold QZ at hc;split at hc
 ·simp only[append_eq_nil_iff] at hc;have h1:=hc.1.2;unfold Qgs at h1;rw[flatMap_eq_nil_iff] at h1;have h2:=h1 i (ZD.2 (by omega));unfold QeK at h2;rw[hq] at h2;dsimp only at h2;rw[append_eq_nil_iff] at h2;have h3:=h2.2;unfold Qj9 at h3;rw[flatMap_eq_nil_iff] at h3;have h4:=h3 n (ZD.2 (by omega));unfold Qgr at h4;rw[hqf] at h4;have h5:=QkR h4;unfold Qjc at h5;split at h5
  ·cases h5
  ·exact h5
 ·cases hc
def Qcr {a:Bool} {c:Int} {r:List Qaf} (h:Qa5 (⟨a,c⟩::r)=0) (hc:c≠0):a=false/\Qa5 r=0:=by
 unfold Qa5 at h
 cases a with
 | true=>exact (hc h).elim
 | false=>exact⟨rfl,h⟩
def Qre {x:Qb} {q:Qi} {k j:Int} {f:Qd} (h:Qhy x q k j f=0) (hk:f.Xi=1\/f.Xi=7\/f.Xi=8):0<=upIx x k j:=by
 unfold Qhy at h;rcases hk with hk | hk | hk
 ·rw[Zd (by omega),Zc hk] at h;have:=(Qcr h (by decide)).1;simpa using this
 ·rw[Zd (by omega),Zd (by omega),Zd (by omega),Zd (by omega),Zd (by omega),Zc hk] at h;have:=(Qcr h (by decide)).1;simpa using this
 ·rw[Zd (by omega),Zd (by omega),Zd (by omega),Zd (by omega),Zd (by omega),Zd (by omega),Zc hk] at h;have:=(Qcr h (by decide)).1;simpa using this
def lowT:Str:=[32,108,111,119]
def Qqf:Str:=[32,104,105,103,104]
def Qqg:Str:=[114,117,108,101,58]
abbrev Dt:=Int×Str×QG
def ofIx (q:Qi) (f:Qd):Int:=if ((f.Xi==4)&&(f.Of !=([]:Str)))=true then Q8 q f.Of else -1
def dotN (q:Qi) (f:Qd):Str:=(q.Xj++[46])++f.Xj
def fldT (i:Nat) (q:Qi) (j:Nat):List Dt:=match q.Xb[j]? with
 | some f=>if ((f.Xi !=2)&&(f.Xi !=4))=true then [] else [((i:Int),dotN q f++lowT,QG.mk (ofIx q f) (j:Int) (i64.wrap (0 - f.Lo))),((i:Int),dotN q f++Qqf,QG.mk (j:Int) (ofIx q f) f.Hi)]
 | none=>[]
def kndT (x:Qb) (i:Nat):List Dt:=match x.Xa[i]? with | some q=>(range q.Xb.length).flatMap (fldT i q) | none=>[]
def rulT (x:Qb) (i:Nat):List Dt:=match x.Xc[i]? with
 | some r=>match idx x.Xa (QQ x r.Xi) with | some q=>[(QQ x r.Xi,Qqg++r.Xj,QG.mk (Q8 q r.A) (Q8 q r.B) r.N)] | none=>[]
 | none=>[]
def Qao (x:Qb):List Dt:=(range x.Xa.length).flatMap (kndT x)++(range x.Xc.length).flatMap (rulT x)
def mkD (t:Dt):QW:=⟨t.1,t.2.1,t.2.2⟩
def mkN (t:Dt):QM:=⟨t.1,t.2.1,t.2.2⟩
def Qm3 (i:Nat) (q:Qi) (j:Nat):(fldT i q j).length<=2:=by
 unfold fldT
 cases q.Xb[j]? with
 | none=>simp
 | some f=>dsimp only;split<;>simp
def QhP {x:Qb} (hv:Qe6 x) (i:Nat):(kndT x i).length<=20:=by
 unfold kndT
 cases hq:x.Xa[i]? with
 | none=>simp
 | some q=>have hf:=(QbW (hv.kind q (Zr hq))).2.1;have h1:=Qa7 q.Xb.length (fldT i q) 2 λj _=>Qm3 i q j;dsimp only;omega
def QkS (x:Qb) (i:Nat):(rulT x i).length<=1:=by
 unfold rulT
 cases x.Xc[i]? with
 | none=>simp
 | some r=>dsimp only;cases idx x.Xa (QQ x r.Xi) with | none=>simp | some q=>simp
def Qfg {x:Qb} (hv:Qe6 x):(Qao x).length<=136:=by unfold Qao;rw[Ze];have h1:=Qa7 x.Xa.length (kndT x) 20 λj _=>QhP hv j;have h2:=Qa7 x.Xc.length (rulT x) 1 λj _=>QkS x j;have:=hv.kinds;have:=hv.rules;omega
def Qpw {r:Qp} (h:QdK r=true):r.Xj.length<=12:=by simp only[QdK,Zi] at h;exact Qbw h.1.1.1.1.1
def QlP {x:Qb} (hc:QZ x=[]) {i:Nat} {r:Qp} (hr:x.Xc[i]?=some r):QiB x i r=0:=by
 unfold QZ at hc;split at hc
 ·have h:=(append_eq_nil_iff.1 hc).2;have hi:i<x.Xc.length:=(Zg.1 hr).1;have:=flatMap_eq_nil_iff.1 h i (ZD.2 hi);unfold QiC at this;rw[hr] at this;exact QkR this
 ·cases hc
def QjC {x:Qb} (hc:QZ x=[]) {i:Nat} {r:Qp} (hr:x.Xc[i]?=some r):∃q,0<=QQ x r.Xi/\idx x.Xa (QQ x r.Xi)=some q/\q∈x.Xa:=by have h:=QlP hc hr;unfold QiB at h;have h2:=(Qcr (Qcr h (by decide)).2 (by decide)).1;simp only[Bool.or_eq_false_iff,ZJ] at h2;have hr:=Qc7 x.Xa λk=>k.Xj==r.Xi;obtain⟨q,hq,hm⟩:=Qct (l:=x.Xa) (i:=QQ x r.Xi) (by omega) hr.2;exact⟨q,by omega,hq,hm⟩
def flat_map' {α β:Type} (g:α->β) (n:Nat) (F:Nat->List α):(range n).flatMap (λi=>(F i).map g)=((range n).flatMap F).map g:=by rw[map_flatMap]
def Qrf {x:Qb} (hs:Qb4 x) (hc:QZ x=[]):QfM x=some ((Qao x).map mkD):=by
 have hv:=Qan hc;have hk6:=hv.kinds;have hr16:=hv.rules;unfold QfM;have hall:((range x.Xa.length).flatMap (kndT x)).length<=120:=by have h1:=Qa7 x.Xa.length (kndT x) 20 λj _=>QhP hv j;omega
 refine (Ya (Option.bind · _) (Qca x.Xa.length (λi=>(kndT x i).map mkD) 20 (λi _=>by rw[Zv];exact QhP hv i) [] (λi hi acc hacc=>?_) (λacc=>by rw[Zd (by simp)]))).trans ?_
 ·simp only[Zl,Nat.zero_add] at hacc;rw[Zc (by simpa using hi),QI hi];have hK:=hv.kind _ (Zk hi);have hf10:=(QbW hK).2.1;have hnm:=QjB hK;simp only[Za];rw[Qca x.Xa[i].Xb.length (λj=>(fldT i x.Xa[i] j).map mkD) 2 (λj _=>by rw[Zv];exact Qm3 _ _ _) acc (λj hj p hp=>?_) (λp=>by rw[Zd (by simp)])]
  ·simp only[Za];have e:kndT x i=(range x.Xa[i].Xb.length).flatMap (fldT i x.Xa[i]):=by unfold kndT;rw[Zb hi]
   rw[e,Qw hi (by omega),flat_map']
  ·have hfn:=QiE ((QbW hK).2.2 _ (Zk hj));rw[Zc (by simpa using hj),QI hj];simp only[Za];have e:fldT i x.Xa[i] j=if ((x.Xa[i].Xb[j].Xi !=2)&&(x.Xa[i].Xb[j].Xi !=4))=true then [] else [((i:Int),dotN x.Xa[i] x.Xa[i].Xb[j]++lowT,QG.mk (ofIx x.Xa[i] x.Xa[i].Xb[j]) (j:Int) (i64.wrap (0 - x.Xa[i].Xb[j].Lo))),((i:Int),dotN x.Xa[i] x.Xa[i].Xb[j]++Qqf,QG.mk (j:Int) (ofIx x.Xa[i] x.Xa[i].Xb[j]) x.Xa[i].Xb[j].Hi)]:=by
    unfold fldT;rw[Zb hj]
   rw[e,Qw hj (by omega)]
   cases ((x.Xa[i].Xb[j].Xi !=2)&&(x.Xa[i].Xb[j].Xi !=4)) with
   | true=>rw[Zc rfl,Zc rfl];simp
   | false=>
    rw[Zd (show ¬(false=true) by decide),Zd (show ¬(false=true) by decide)];have ho:(if ((x.Xa[i].Xb[j].Xi==(4:Int))&&(x.Xa[i].Xb[j].Of !=([]:Str)))=true then (QdO x.Xa[i] x.Xa[i].Xb[j].Of).bind λt49=>some t49 else some (-1:Int))=some (ofIx x.Xa[i] x.Xa[i].Xb[j]):=by
     unfold ofIx;split
     ·unfold QdO;rw[Qch (by omega)];rfl
     ·rfl
    rw[ho];simp only[Za];rw[QcD (by simp;omega),QcD (by simp;omega),QcD (by simp;omega),QcD (by simp;omega),QaT (by simp;omega)];rfl
 ·simp only[Za,Ye];refine (Ya (Option.bind · _) (Qca x.Xc.length (λi=>(rulT x i).map mkD) 1 (λi _=>by rw[Zv];exact QkS x i) _ (λi hi acc hacc=>?_) (λacc=>by rw[Zd (by simp)]))).trans ?_
  ·rw[flat_map',Zv] at hacc;obtain⟨q,hq0,hq,hm⟩:=QjC hc (Zb hi);have hrn:=Qpw (hv.rule _ (Zk hi));have hK:=hv.kind _ hm;have hf10:=(QbW hK).2.1;rw[Zc (by simpa using hi),QI hi];simp only[Za];rw[Qc8 (by omega)];simp only[Za];rw[hq];simp only[Za];unfold QdO;rw[QcD (by simp;omega),Qch (by omega),Qch (by omega)];simp only[Za];rw[QaT (by simp;omega),Qw hi (by omega)];have e:rulT x i=[(QQ x x.Xc[i].Xi,Qqg++x.Xc[i].Xj,QG.mk (Q8 q x.Xc[i].A) (Q8 q x.Xc[i].B) x.Xc[i].N)]:=by unfold rulT;rw[Zb hi];dsimp only;rw[hq]
   rw[e];rfl
  ·simp only[Za];rw[flat_map',flat_map',<-ZT];rfl
def QlQ {x:Qb} (hs:Qb4 x) (hc:QZ x=[]):Qd7 x=some ((Qao x).map mkN):=by
 have hv:=Qan hc;have hk6:=hv.kinds;have hr16:=hv.rules;unfold Qd7;have hall:((range x.Xa.length).flatMap (kndT x)).length<=120:=by have h1:=Qa7 x.Xa.length (kndT x) 20 λj _=>QhP hv j;omega
 refine (Ya (Option.bind · _) (Qca x.Xa.length (λi=>(kndT x i).map mkN) 20 (λi _=>by rw[Zv];exact QhP hv i) [] (λi hi acc hacc=>?_) (λacc=>by rw[Zd (by simp)]))).trans ?_
 ·simp only[Zl,Nat.zero_add] at hacc;rw[Zc (by simpa using hi),QI hi];have hK:=hv.kind _ (Zk hi);have hf10:=(QbW hK).2.1;have hnm:=QjB hK;simp only[Za];rw[Qca x.Xa[i].Xb.length (λj=>(fldT i x.Xa[i] j).map mkN) 2 (λj _=>by rw[Zv];exact Qm3 _ _ _) acc (λj hj p hp=>?_) (λp=>by rw[Zd (by simp)])]
  ·simp only[Za];have e:kndT x i=(range x.Xa[i].Xb.length).flatMap (fldT i x.Xa[i]):=by unfold kndT;rw[Zb hi]
   rw[e,Qw hi (by omega),flat_map']
  ·have hfn:=QiE ((QbW hK).2.2 _ (Zk hj));rw[Zc (by simpa using hj),QI hj];simp only[Za];have e:fldT i x.Xa[i] j=if ((x.Xa[i].Xb[j].Xi !=2)&&(x.Xa[i].Xb[j].Xi !=4))=true then [] else [((i:Int),dotN x.Xa[i] x.Xa[i].Xb[j]++lowT,QG.mk (ofIx x.Xa[i] x.Xa[i].Xb[j]) (j:Int) (i64.wrap (0 - x.Xa[i].Xb[j].Lo))),((i:Int),dotN x.Xa[i] x.Xa[i].Xb[j]++Qqf,QG.mk (j:Int) (ofIx x.Xa[i] x.Xa[i].Xb[j]) x.Xa[i].Xb[j].Hi)]:=by
    unfold fldT;rw[Zb hj]
   rw[e,Qw hj (by omega)]
   cases ((x.Xa[i].Xb[j].Xi !=2)&&(x.Xa[i].Xb[j].Xi !=4)) with
   | true=>rw[Zc rfl,Zc rfl];simp
   | false=>
    rw[Zd (show ¬(false=true) by decide),Zd (show ¬(false=true) by decide)];have ho:(if ((x.Xa[i].Xb[j].Xi==(4:Int))&&(x.Xa[i].Xb[j].Of !=([]:Str)))=true then (Qbg x.Xa[i] x.Xa[i].Xb[j].Of).bind λt57=>some t57 else some (-1:Int))=some (ofIx x.Xa[i] x.Xa[i].Xb[j]):=by
     unfold ofIx;split
     ·rw[QcC (by omega)];rfl
     ·rfl
    rw[ho];simp only[Za];rw[QcD (by simp;omega),QcD (by simp;omega),QcD (by simp;omega),QaT (by simp;omega),QcD (by simp;omega),QaT (by simp;omega)];simp only[Za];rw[ZA p];rfl
 ·simp only[Za,Ye];refine (Ya (Option.bind · _) (Qca x.Xc.length (λi=>(rulT x i).map mkN) 1 (λi _=>by rw[Zv];exact QkS x i) _ (λi hi acc hacc=>?_) (λacc=>by rw[Zd (by simp)]))).trans ?_
  ·rw[flat_map',Zv] at hacc;obtain⟨q,hq0,hq,hm⟩:=QjC hc (Zb hi);have hrn:=Qpw (hv.rule _ (Zk hi));have hK:=hv.kind _ hm;have hf10:=(QbW hK).2.1;rw[Zc (by simpa using hi),QI hi];simp only[Za];rw[Qdz (by omega)];simp only[Za];rw[hq];simp only[Za];rw[QcC (by omega),QcC (by omega)];simp only[Za];rw[QcD (by simp;omega),QaT (by simp;omega),Qw hi (by omega)];have e:rulT x i=[(QQ x x.Xc[i].Xi,Qqg++x.Xc[i].Xj,QG.mk (Q8 q x.Xc[i].A) (Q8 q x.Xc[i].B) x.Xc[i].N)]:=by unfold rulT;rw[Zb hi];dsimp only;rw[hq]
   rw[e];rfl
  ·simp only[Za];rw[flat_map',flat_map',<-ZT];rfl
def QaK (x:Qb):List Str:=namL x++(Qao x).map λt=>t.2.1
def Qjd (x:Qb):List Str×Int:=match QZ x with | []=>(QaK x,0) | p::_=>([],p.Code)
def Qje {x:Qb} (hv:Qe6 x):(namL x).length<=132:=by unfold namL;have h1:=Qa7 x.Xa.length (kndN x) 22 λj _=>(QiU Qk.mk hv j).2;have:=hv.kinds;omega
def Qpx {α:Type} (l:List α) (g:α->Str) (a0:List Str) (h0:a0.length<=1000) (hl:l.length<=1000) {body:Int×List Str->Option ((Int×List Str)⊕List Str)}
  (hs:∀k (h:k<l.length) (acc:List Str),acc.length<=2000->body ((k:Int),acc)=some (.inl (((k+1:Nat):Int),acc++[g l[k]]))) (he:∀acc,body ((l.length:Int),acc)=some (.inr acc)):Qm body ((0:Int),a0)=some (a0++l.map g):=by
 have h:=QbZ (body:=body) l.length (λn=>((n:Int),a0++(l.take n).map g)) (a0++l.map g) (λk hk=>?_) ?_
 ·simpa using h
 ·rw[hs k hk _ (by simp;omega),<-Qk6 g l hk,ZA]
 ·rw[he];simp
def Qt6 {x:Qb} (h:Qb4 x):Qfx x=some (match QZ x with | []=>0 | p::_=>p.Code):=by
 unfold Qfx;rw[Qrb h];simp only[Za]
 cases QZ x with
 | nil=>rfl
 | cons p l=>rw[Zc (by simp)];rfl
def QmL {x:Qb} (h:Qb4 x):QdR x=some (match QZ x with | []=>0 | p::_=>p.Code):=by
 unfold QdR;rw[Qpu h];simp only[Za]
 cases QZ x with
 | nil=>rfl
 | cons p l=>rw[Yf,Zc (by simp)];rfl
def Qrg {x:Qb} (h:Qb4 x):QfN x=some (Qjd x):=by
 unfold QfN Qjd;rw[Qt6 h,Qpv h];unfold limR
 cases hc:QZ x with
 | cons p l=>have:=Qgt (x:=x) (p:=p) (by rw[hc];exact Zn ..);dsimp only[Option.bind_some];rw[Zc (by simpa using this)]
 | nil=>
  have hv:=Qan hc;dsimp only[Option.bind_some];rw[Zd (by simp),Qrf h hc];simp only[Za];have h1:=Qje hv;have h2:=Qfg hv;rw[Qpx ((Qao x).map mkD) (λt=>t.name) (namL x) (by omega) (by rw[Zv];omega) (λk hk acc ha=>?_) (λacc=>by rw[Zd (by simp)])]
  ·simp only[Za,Yv];rfl
  ·rw[Zc (by simpa using hk),QI hk];simp only[Za];rw[QaT (by simp;omega),Qw hk (by rw[Zv];omega)];rfl
def Qwo {x:Qb} (h:Qb4 x):Qgk x=some (Qjd x):=by
 unfold Qgk Qjd;rw[QmL h,QiF h];unfold limR
 cases hc:QZ x with
 | cons p l=>have:=Qgt (x:=x) (p:=p) (by rw[hc];exact Zn ..);dsimp only[Option.bind_some];rw[Zc (by simpa using this)]
 | nil=>
  have hv:=Qan hc;dsimp only[Option.bind_some];rw[Zd (by simp),QlQ h hc];simp only[Za];have h1:=Qje hv;have h2:=Qfg hv;rw[Qpx ((Qao x).map mkN) (λt=>t.Xj) (namL x) (by omega) (by rw[Zv];omega) (λk hk acc ha=>?_) (λacc=>by rw[Zd (by simp)])]
  ·simp only[Za,Yv];rfl
  ·rw[Zc (by simpa using hk),QI hk];simp only[Za];rw[QaT (by simp;omega),Qw hk (by rw[Zv];omega)];rfl
def refF (x:Qb) (i:Nat) (q:Qi) (j:Nat):List QR:=match q.Xb[j]? with | some f=>if (f.Xi==1)=true then [QR.mk (i:Int) (upIx x (i:Int) (j:Int))] else [] | none=>[]
def refK (x:Qb) (i:Nat):List QR:=match x.Xa[i]? with | some q=>(range q.Xb.length).flatMap (refF x i q) | none=>[]
def QeL (x:Qb):List QR:=(range x.Xa.length).flatMap (refK x)
def Qrh (x:Qb) (i:Nat) (q:Qi) (j:Nat):(refF x i q j).length<=1:=by
 unfold refF
 cases q.Xb[j]? with
 | none=>simp
 | some f=>dsimp only;split<;>simp
def Qri {x:Qb} (hv:Qe6 x) (i:Nat):(refK x i).length<=10:=by
 unfold refK
 cases hq:x.Xa[i]? with
 | none=>simp
 | some q=>have hf:=(QbW (hv.kind q (Zr hq))).2.1;have h1:=Qa7 q.Xb.length (refF x i q) 1 λj _=>Qrh x i q j;dsimp only;omega
def Qwp {x:Qb} (hv:Qe6 x):(QeL x).length<=60:=by unfold QeL;have h1:=Qa7 x.Xa.length (refK x) 10 λj _=>Qri hv j;have:=hv.kinds;omega
def Qbp (x:Qb):Qa8:=⟨x,limL Qk.mk x,(Qao x).map mkD,QeL x⟩
def Qrj {x:Qb} (h:Qb4 x) (hc:QZ x=[]):QfO x=some (Qbp x):=by
 have hv:=Qan hc;have hk6:=hv.kinds;have hfew:Few x:=h.few;unfold QfO;rw[Qpv h,Qrf h hc];unfold limR;rw[hc];simp only[Za];refine (Ya (Option.bind · _) (Qca x.Xa.length (refK x) 10 (λi _=>Qri hv i) [] (λi hi acc hacc=>?_) (λacc=>by rw[Zd (by simp)]))).trans ?_
 ·simp only[Zl,Nat.zero_add] at hacc;rw[Zc (by simpa using hi),QI hi];have hf10:=(QbW (hv.kind _ (Zk hi))).2.1;simp only[Za];rw[Qca x.Xa[i].Xb.length (refF x i x.Xa[i]) 1 (λj _=>Qrh _ _ _ _) acc (λj hj p hp=>?_) (λp=>by rw[Zd (by simp)])]
  ·simp only[Za];have e:refK x i=(range x.Xa[i].Xb.length).flatMap (refF x i x.Xa[i]):=by unfold refK;rw[Zb hi]
   rw[e,Qw hi (by omega)]
  ·rw[Zc (by simpa using hj),QI hj];simp only[Za];have e:refF x i x.Xa[i] j=if (x.Xa[i].Xb[j].Xi==1)=true then [QR.mk (i:Int) (upIx x (i:Int) (j:Int))] else []:=by unfold refF;rw[Zb hj]
   rw[e,Qw hj (by omega)]
   cases (x.Xa[i].Xb[j].Xi==1) with
   | false=>simp
   | true=>rw[Zc rfl,Zc rfl,Qhv hfew];simp only[Za];rw[QaT (by simp;omega)];rfl
 ·rfl
structure CSol (n:Nat) (P:Qk->Prop) (R:Int->Int->Prop) (E:Int->Prop) (v:List Int):Prop where
 len:v.length=n
 num:∀z∈v,0<=z/\z<=65536
 keep:∀y,P y->Qn1 y v=true
 ref:∀a b,R a b->0<nth v a->0<nth v b
 emp:∀k:Int,0<=k->k<n->E k->nth v k=0
def CSat (n:Nat) (P:Qk->Prop) (R:Int->Int->Prop) (E:Int->Prop):Prop:=∃v,CSol n P R E v
def QiV {v:List Int} {z:Int} (h:z∈v):∃i:Int,0<=i/\i<v.length/\nth v i=z:=by obtain⟨k,hk,rfl⟩:=ZY h;exact⟨(k:Int),by omega,by omega,Qml hk⟩
def NLe (v x:List Int):Prop:=v.length=x.length/\∀i:Int,0<=i->i<v.length->nth v i<=nth x i
def NLe.refl (v:List Int):NLe v v:=⟨rfl,λ_ _ _=>ZR _⟩
def NLe.trans {u v w:List Int} (h:NLe u v) (k:NLe v w):NLe u w:=⟨h.1.trans k.1,λi h0 h1=>Int.le_trans (h.2 i h0 h1) (k.2 i h0 (by have:=h.1;omega))⟩
def QBW {v w:List Int} (hl:v.length=w.length) (h:∀i:Int,0<=i->i<v.length->nth v i=nth w i):v=w:=by
 refine ext_getElem hl λk h1 h2=>?_;have:=h (k:Int) (by omega) (by omega)
 rwa [Qml h1,Qml h2] at this
def NLe.anti {v w:List Int} (h:NLe v w) (k:NLe w v):v=w:=QBW h.1 λi h0 h1=>Int.le_antisymm (h.2 i h0 h1) (k.2 i h0 (by have:=h.1;omega))
def Qwq:∀{v w:List Int},NLe v w->v≠w->v.sum<w.sum:=by
 have le:∀{v w:List Int},NLe v w->v.sum<=w.sum:=by
  intro v
  induction v with
  | nil=>intro w h;have:=h.1;cases w with | nil=>exact ZR _ | cons _ _=>cases this
  | cons a v ih=>
   intro w h
   cases w with
   | nil=>cases h.1
   | cons b w=>have h0:=h.2 0 (by omega) (by simp);have h1:NLe v w:=⟨by simpa using h.1,λi i0 i1=>by have:=h.2 (i+1) (by omega) (by simp;omega);obtain⟨k,rfl⟩:=Zy i0;simpa[nth,show ((k:Int)+1).toNat=k+1 by omega] using this⟩;have:=ih h1;simp only[nth,Int.toNat_zero,getD_cons_zero] at h0;simp only[sum_cons];omega
 intro v
 induction v with
 | nil=>intro w h hne;have:=h.1;cases w with | nil=>exact absurd rfl hne | cons _ _=>cases this
 | cons a v ih=>
  intro w h hne
  cases w with
  | nil=>cases h.1
  | cons b w=>
   have h0:=h.2 0 (by omega) (by simp);have h1:NLe v w:=⟨by simpa using h.1,λi i0 i1=>by have:=h.2 (i+1) (by omega) (by simp;omega);obtain⟨k,rfl⟩:=Zy i0;simpa[nth,show ((k:Int)+1).toNat=k+1 by omega] using this⟩;simp only[nth,Int.toNat_zero,getD_cons_zero] at h0;simp only[sum_cons];by_cases e:v=w
   ·subst e;have:a≠b:=λe=>hne (by rw[e]);omega
   ·have:=ih h1 e;omega
def up1 (v:List Int) (k m:Int):List Int:=if nth v k<m then v.set k.toNat m else v
def QcS (v:List Int) (k m:Int):(up1 v k m).length=v.length:=by unfold up1;split<;>simp
def QiW {v:List Int} {k m i:Int} (k0:0<=k) (k1:k<v.length) (i0:0<=i):nth (up1 v k m) i=if k=i then max (nth v k) m else nth v i:=by
 unfold up1;split
 ·rw[QBG k0 i0 k1];split
  ·omega
  ·rfl
 ·split
  ·next e=>subst e;omega
  ·rfl
def Qih {v:List Int} {k m:Int} (k0:0<=k) (k1:k<v.length):NLe v (up1 v k m):=⟨(QcS v k m).symm,λi i0 i1=>by
 rw[QiW k0 k1 i0];split
 ·next e=>subst e;omega
 ·exact ZR _⟩
def QkT {v:List Int} {k m:Int} (k0:0<=k) (k1:k<v.length):up1 v k m=v↔m<=nth v k:=by
 constructor
 ·intro h;have:=QiW (m:=m) k0 k1 k0;rw[h,Zc rfl] at this;omega
 ·intro h;unfold up1;rw[Zd (by omega)]
structure CInv (n:Nat) (P:Qk->Prop) (R:Int->Int->Prop) (E:Int->Prop) (v:List Int):Prop where
 len:v.length=n
 nn:∀z∈v,0<=z/\z<=9223372036854775807
 reg:((∀z∈v,z<=65536)/\∀x,CSol n P R E x->NLe v x)\/((∃z∈v,65536<z)/\¬CSat n P R E)
section
variable {n:Nat} {P:Qk->Prop} {R:Int->Int->Prop} {E:Int->Prop} {v:List Int}
def CInv.at (h:CInv n P R E v) {i:Int} (i0:0<=i) (i1:i<n):0<=nth v i/\nth v i<=9223372036854775807:=h.nn _ (Qcj i0 (by rw[h.len];exact i1))
def CInv.up (h:CInv n P R E v) {k m:Int} (k0:0<=k) (k1:k<n) (hm:m<=9223372036854775807) (hs:(∀z∈v,0<=z/\z<=65536)->∀x,CSol n P R E x->NLe v x->m<=nth x k):CInv n P R E (up1 v k m):=by
 have k1':k<v.length:=by rw[h.len];exact k1
 have hk:=h.at k0 k1;have hnn:∀z∈up1 v k m,0<=z/\z<=9223372036854775807:=λz hz=>by obtain⟨i,i0,i1,rfl⟩:=QiV hz;rw[QcS,h.len] at i1;rw[QiW k0 k1' i0];have:=h.at i0 i1;split<;>omega
 refine⟨(QcS v k m).trans h.len,hnn,?_⟩;rcases h.reg with⟨h1,h2⟩ | ⟨⟨z,hz,hlt⟩,h2⟩
 ·have hx:∀x,CSol n P R E x->NLe (up1 v k m) x:=λx hx=>by
   have hle:=h2 x hx;have hmx:=hs (λz hz=>⟨(h.nn z hz).1,h1 z hz⟩) x hx hle;refine⟨(QcS v k m).trans hle.1,λi i0 i1=>?_⟩;rw[QcS] at i1;rw[QiW k0 k1' i0];have:=hle.2 i i0 i1;split
   ·next e=>subst e;omega
   ·exact this
  by_cases hb:∀z∈up1 v k m,z<=65536
  ·exact .inl ⟨hb,hx⟩
  ·refine .inr ?_;have hb':∃z∈up1 v k m,65536<z:=Classical.byContradiction λhc=>hb λz hz=>Int.not_lt.1 λhl=>hc ⟨z,hz,hl⟩;refine⟨hb',λ⟨x,hsx⟩=>?_⟩;obtain⟨z,hz,hlt⟩:=hb';obtain⟨i,i0,i1,rfl⟩:=QiV hz;have h3:=(hx x hsx).2 i i0 i1;have h4:=(hsx.num _ (Qcj i0 (by rw[<-(hx x hsx).1];exact i1))).2;omega
 ·refine .inr ⟨?_,h2⟩;obtain⟨i,i0,i1,rfl⟩:=QiV hz;refine⟨nth (up1 v k m) i,Qcj i0 (by rw[QcS];exact i1),?_⟩;rw[QiW k0 k1' i0];split
  ·next e=>subst e;omega
  ·exact hlt
def CInv.zero:CInv n P R E (replicate n 0):=by refine⟨by simp,λz hz=>by rw[(mem_replicate.1 hz).2];omega,.inl ⟨λz hz=>by rw[(mem_replicate.1 hz).2];omega,λx hx=>⟨by rw[Yo,hx.len],λi i0 i1=>?_⟩⟩⟩;rw[Yo] at i1;have h1:nth (replicate n 0) i=0:=(mem_replicate.1 (Qcj i0 (by rw[Yo];exact i1))).2;rw[h1];exact (hx.num _ (Qcj i0 (by rw[hx.len];exact i1))).1
def rsO (y:Qk) (v:List Int):Int:=if y.B>=0 then nth v y.B else 1
def rsF (y:Qk):Bool:=decide (y.B<0)||(y.Mul==0)
def rsK (y:Qk):Int:=if y.Xh=true then y.A else if rsF y=true then y.A else y.B
def rsN (y:Qk) (v:List Int):Int:=if y.Xh=true then i64.wrap (y.Mul * rsO y v) else if rsF y=true then 0 else i64.wrap (Int.tdiv (i64.wrap (i64.wrap (nth v y.A+y.Mul) - 1)) y.Mul)
def rsB (y:Qk) (v:List Int):Bool:=if y.Xh=true then true else if rsF y=true then decide (nth v y.A<=y.Mul) else true
def Qrk (y:Qk) (v:List Int):rsN y v<=9223372036854775807:=by
 unfold rsN;split
 ·exact (Qjw _).2
 ·split
  ·omega
  ·exact (Qjw _).2
def Qii {y:Qk} (hy:VL y n):0<=rsK y/\rsK y<n:=by
 have:=hy.a0;have:=hy.a1;have:=hy.b1;unfold rsK;split
 ·exact⟨hy.a0,hy.a1⟩
 ·split
  ·exact⟨hy.a0,hy.a1⟩
  ·next h=>simp only[rsF,Zz,Zo,not_or] at h;exact⟨by omega,hy.b1⟩
def Qrl {y:Qk} (hy:VL y n) (hv:∀z∈v,0<=z/\z<=65536) (hl:v.length=n) (hL:y.Xh=true):rsN y v=if y.B<0 then y.Mul else y.Mul * nth v y.B:=by
 have:=hy.m0;have:=hy.m1;have:=hy.b0;have:=hy.b1;unfold rsN rsO;rw[Zc hL];by_cases hb:y.B<0
 ·rw[Zd (by omega),Zc hb,Int.mul_one,w64 (by omega) (by omega)]
 ·have h:=hv _ (Qcj (by omega) (by rw[hl];exact hy.b1):nth v y.B∈v);have hm:=QBE hy.m0 hy.m1 h.1 h.2;rw[Zc (by omega),Zd hb,w64 (by omega) (by omega)]
def Qs2 {y:Qk} (hy:VL y n) (hv:∀z∈v,0<=z/\z<=65536) (hl:v.length=n) (hL:¬y.Xh=true) (hF:¬rsF y=true):rsN y v=(nth v y.A+y.Mul - 1) / y.Mul/\0<y.Mul/\0<=y.B:=by have:=hy.m0;have:=hy.m1;have:=hy.b0;have:=hy.b1;have hF':=hF;simp only[rsF,Zz,Zo,ZW,not_or] at hF';have h:=hv _ (Qcj hy.a0 (by rw[hl];exact hy.a1):nth v y.A∈v);refine⟨?_,by omega,by omega⟩;unfold rsN;rw[Zd hL,Zd hF,w64 (n:=nth v y.A+y.Mul) (by omega) (by omega),w64 (n:=nth v y.A+y.Mul - 1) (by omega) (by omega),Int.tdiv_eq_ediv_of_nonneg (by omega)];have h0:0<=(nth v y.A+y.Mul - 1) / y.Mul:=Int.ediv_nonneg (by omega) (by omega);have h1:(nth v y.A+y.Mul - 1) / y.Mul<=nth v y.A+y.Mul - 1:=Int.ediv_le_self _ (by omega);rw[w64 (by omega) (by omega)]
def rs_le {y:Qk} (hy:VL y n) (hP:P y) (hl:v.length=n) (hv:∀z∈v,0<=z/\z<=65536) {x:List Int} (hx:CSol n P R E x) (hle:NLe v x):rsN y v<=nth x (rsK y):=by
 have:=hy.m0;have:=hy.m1;have:=hy.b0;have:=hy.b1;have:=hy.a0;have:=hy.a1;have hk:=hx.keep y hP;unfold Qn1 bndS at hk;by_cases hL:y.Xh=true
 ·rw[Qrl hy hv hl hL];unfold rsK;rw[Zc hL] at hk ⊢;by_cases hb:y.B<0
  ·rw[Zc hb] at hk ⊢;simpa using hk
  ·rw[Zd hb] at hk ⊢;have h1:y.Mul * nth v y.B<=y.Mul * nth x y.B:=Int.mul_le_mul_of_nonneg_left (hle.2 _ (by omega) (by rw[hl];exact hy.b1)) hy.m0;have h2:nth x y.A>=y.Mul * nth x y.B:=ZS hk;omega
 ·rw[Zd hL] at hk;by_cases hF:rsF y=true
  ·unfold rsN rsK;rw[Zd hL,Zd hL,Zc hF,Zc hF];exact (hx.num _ (Qcj hy.a0 (by rw[hx.len];exact hy.a1))).1
  ·obtain⟨e,h1,h2⟩:=Qs2 hy hv hl hL hF;rw[e];unfold rsK;rw[Zd hL,Zd hF];rw[Zd (by omega)] at hk;have hk:nth x y.A<=y.Mul * nth x y.B:=ZS hk;have h3:=hle.2 _ hy.a0 (by rw[hl];exact hy.a1);exact (QsX h1).2 (by omega)
def rs_bad {y:Qk} (hy:VL y n) (hP:P y) (h:CInv n P R E v) (hb:rsB y v=false):¬CSat n P R E:=by
 rcases h.reg with⟨h1,h2⟩ | ⟨_,h2⟩
 ·rintro ⟨x,hx⟩;have:=hy.a0;have:=hy.a1;unfold rsB at hb;split at hb
  ·cases hb
  ·next hL=>
   split at hb
   ·next hF=>
    have hlt:=Yk hb;have hle:=(h2 x hx).2 _ hy.a0 (by rw[h.len];exact hy.a1);have hk:=hx.keep y hP;unfold Qn1 bndS at hk;rw[Zd hL] at hk;simp only[rsF,Zz,Zo,ZW] at hF;by_cases hB:y.B<0
    ·rw[Zc hB] at hk;have:=ZS hk;omega
    ·have hm:y.Mul=0:=by omega
     rw[Zd hB,hm,Int.zero_mul] at hk;have:=ZS hk;omega
   ·cases hb
 ·exact h2
def QBX {y:Qk} (hy:VL y n) (hl:v.length=n) (hv:∀z∈v,0<=z/\z<=65536) (hb:rsB y v=true) (hd:rsN y v<=nth v (rsK y)):Qn1 y v=true:=by
 have:=hy.m0;have:=hy.b0;unfold Qn1 bndS;by_cases hL:y.Xh=true
 ·rw[Qrl hy hv hl hL] at hd;unfold rsK at hd;rw[Zc hL] at hd ⊢;by_cases hB:y.B<0
  ·rw[Zc hB] at hd ⊢;exact decide_eq_true hd
  ·rw[Zd hB] at hd ⊢;exact decide_eq_true hd
 ·rw[Zd hL];by_cases hF:rsF y=true
  ·unfold rsB at hb;rw[Zd hL,Zc hF] at hb;have hle:=ZS hb;simp only[rsF,Zz,Zo,ZW] at hF;by_cases hB:y.B<0
   ·rw[Zc hB];exact decide_eq_true hle
   ·have hm:y.Mul=0:=by omega
    rw[Zd hB,hm,Int.zero_mul];exact decide_eq_true (by omega)
  ·obtain⟨e,h1,h2⟩:=Qs2 hy hv hl hL hF;rw[e] at hd;unfold rsK at hd;rw[Zd hL,Zd hF] at hd;rw[Zd (by omega)];exact decide_eq_true ((QsX h1).1 hd)
def rndL:List Qk->List Int->Option (List Int)
 | [],v=>some v
 | y::l,v=>if rsB y v=true then rndL l (up1 v (rsK y) (rsN y v)) else none
def rndR:List (Int×Int)->List Int->List Int
 | [],v=>v
 | r::l,v=>rndR l (up1 v r.2 (imin 1 (nth v r.1)))
def QoU:∀(l:List Qk) (v:List Int),(∀y∈l,VL y n/\P y)->CInv n P R E v->(∀w,rndL l v=some w->CInv n P R E w/\NLe v w)/\(rndL l v=none->¬CSat n P R E)
 | [],v,_,hv=>⟨λw hw=>by obtain rfl:=Zu hw;exact⟨hv,NLe.refl _⟩,λh=>nomatch h⟩
 | y::l,v,hl,hv=>by
  obtain⟨hy,hP⟩:=hl y (Zn ..);have hk:=Qii hy;unfold rndL;by_cases hb:rsB y v=true
  ·rw[Zc hb];have hu:CInv n P R E (up1 v (rsK y) (rsN y v)):=hv.up hk.1 hk.2 (Qrk y v) λhn x hx hle=>rs_le hy hP hv.len hn hx hle;obtain⟨h1,h2⟩:=QoU l _ (λz hz=>hl z (Zs _ hz)) hu;exact⟨λw hw=>⟨(h1 w hw).1,(Qih hk.1 (by rw[hv.len];exact hk.2)).trans (h1 w hw).2⟩,h2⟩
  ·rw[Zd hb];exact⟨λw hw=>(nomatch hw),λ_=>rs_bad hy hP hv (by simpa using hb)⟩
def Qs3:∀(l:List (Int×Int)) (v:List Int),(∀r∈l,(0<=r.1/\r.1<n)/\(0<=r.2/\r.2<n)/\R r.1 r.2)->CInv n P R E v->CInv n P R E (rndR l v)/\NLe v (rndR l v)
 | [],v,_,hv=>⟨hv,NLe.refl _⟩
 | r::l,v,hl,hv=>by
  obtain⟨ha,hb,hR⟩:=hl r (Zn ..);have hu:CInv n P R E (up1 v r.2 (imin 1 (nth v r.1))):=hv.up hb.1 hb.2 (by unfold imin;split<;>omega) λhn x hx hle=>by have h1:=hle.2 r.1 ha.1 (by rw[hv.len];exact ha.2);have h2:=hx.ref r.1 r.2 hR;have h3:=(hx.num _ (Qcj hb.1 (by rw[hx.len];exact hb.2))).1;have h4:=(hn _ (Qcj ha.1 (by rw[hv.len];exact ha.2))).1;unfold imin;split<;>omega
  obtain⟨h1,h2⟩:=Qs3 l _ (λz hz=>hl z (Zs _ hz)) hu;unfold rndR;exact⟨h1,(Qih hb.1 (by rw[hv.len];exact hb.2)).trans h2⟩
def QiX:∀(l:List Qk) (v w:List Int),(∀y∈l,VL y n)->v.length=n->rndL l v=some w->NLe v w
 | [],v,w,_,_,h=>by obtain rfl:=Zu h;exact NLe.refl _
 | y::l,v,w,hl,hv,h=>by
  have hk:=Qii (hl y (Zn ..));unfold rndL at h;split at h
  ·exact (Qih hk.1 (by rw[hv];exact hk.2)).trans (QiX l _ w (λz hz=>hl z (Zs _ hz)) ((QcS ..).trans hv) h)
  ·cases h
def QiY:∀(l:List (Int×Int)) (v:List Int),(∀r∈l,0<=r.2/\r.2<n)->v.length=n->NLe v (rndR l v)
 | [],v,_,_=>NLe.refl _
 | r::l,v,hl,hv=>by have hk:=hl r (Zn ..);exact (Qih hk.1 (by rw[hv];exact hk.2)).trans (QiY l _ (λz hz=>hl z (Zs _ hz)) ((QcS ..).trans hv))
def Qrm:∀(l:List Qk) (v:List Int),(∀y∈l,VL y n)->v.length=n->rndL l v=some v->∀y∈l,rsB y v=true/\rsN y v<=nth v (rsK y)
 | [],_,_,_,_=>by simp
 | y::l,v,hl,hv,h=>by
  have hk:=Qii (hl y (Zn ..));have hk2:rsK y<v.length:=by rw[hv];exact hk.2
  unfold rndL at h;split at h
  ·next hb=>
   have h1:=Qih (m:=rsN y v) hk.1 hk2;have h2:=QiX l _ v (λz hz=>hl z (Zs _ hz)) ((QcS ..).trans hv) h;have e:=(h1.anti h2).symm;rw[e] at h;have ih:=Qrm l v (λz hz=>hl z (Zs _ hz)) hv h;intro z hz;rcases Zp.1 hz with rfl | hz
   ·exact⟨hb,(QkT hk.1 hk2).1 e⟩
   ·exact ih z hz
  ·cases h
def Qrn:∀(l:List (Int×Int)) (v:List Int),(∀r∈l,0<=r.2/\r.2<n)->v.length=n->rndR l v=v->∀r∈l,imin 1 (nth v r.1)<=nth v r.2
 | [],_,_,_,_=>by simp
 | r::l,v,hl,hv,h=>by
  have hk:=hl r (Zn ..);have hk2:r.2<v.length:=by rw[hv];exact hk.2
  unfold rndR at h;have h1:=Qih (m:=imin 1 (nth v r.1)) hk.1 hk2;have h2:=QiY l (up1 v r.2 (imin 1 (nth v r.1))) (λz hz=>hl z (Zs _ hz)) ((QcS ..).trans hv);rw[h] at h2;have e:=(h1.anti h2).symm;rw[e] at h;have ih:=Qrn l v (λz hz=>hl z (Zs _ hz)) hv h;intro z hz;rcases Zp.1 hz with rfl | hz
  ·exact (QkT hk.1 hk2).1 e
  ·exact ih z hz
end
def rnd (l:List Qk) (r:List (Int×Int)) (v:List Int):Option (List Int):=(rndL l v).map (rndR r)
def over (E:Int->Bool) (n:Nat) (v:List Int):Bool:=(range n).any λk=>decide (65536<nth v (k:Int))||(decide (0<nth v (k:Int))&&E (k:Int))
def QiG (E:Int->Bool) (n:Nat) (l:List Qk) (r:List (Int×Int)):Nat->List Int->Bool
 | 0,_=>false
 | f+1,v=>match rnd l r v with
  | none=>false
  | some w=>if over E n w=true then false else if w=v then true else QiG E n l r f w
def QkU {E:Int->Bool} {n:Nat} {v:List Int}:over E n v=false↔∀k:Int,0<=k->k<n->nth v k<=65536/\(0<nth v k->E k=false):=by
 unfold over;rw[any_eq_false];constructor
 ·intro h k k0 k1;obtain⟨j,rfl⟩:=Zy k0;have:=h j (ZD.2 (by omega));simp only[Zz,Zi,Zo,not_or,not_and] at this;exact⟨by omega,λhp=>by simpa using this.2 hp⟩
 ·intro h j hj;have:=h (j:Int) (by omega) (by have:=ZD.1 hj;omega);simp only[Zz,Zi,Zo,not_or,not_and];exact⟨by omega,λhp=>by simp[this.2 hp]⟩
def Qro:∀(v:List Int),(∀z∈v,0<=z/\z<=65536)->0<=v.sum/\v.sum<=65536 * v.length
 | [],_=>by simp
 | z::v,h=>by have:=Qro v λy hy=>h y (Zs _ hy);have:=h z (Zn ..);simp only[sum_cons,Zj];omega
section
variable {n:Nat} {E:Int->Bool} {l:List Qk} {r:List (Int×Int)}
def Qpy (hl:∀y∈l,VL y n) (hr:∀p∈r,(0<=p.1/\p.1<n)/\(0<=p.2/\p.2<n)):∀(f:Nat) (v:List Int),CInv n (λy=>y∈l) (λa b=>(a,b)∈r) (λk=>E k=true) v->(∀z∈v,0<=z/\z<=65536)->65536 * (n:Int) - v.sum<f->
  (QiG E n l r f v=true↔CSat n (λy=>y∈l) (λa b=>(a,b)∈r) (λk=>E k=true))
 | 0,v,hv,hz,hf=>by have:=Qro v hz;rw[hv.len] at this;omega
 | f+1,v,hv,hz,hf=>by
  obtain⟨h1,h2⟩:=QoU (R:=λa b=>(a,b)∈r) (E:=λk=>E k=true) l v (λy hy=>⟨hl y hy,hy⟩) hv;unfold QiG rnd
  cases hL:rndL l v with
  | none=>simp only[Option.map_none];exact⟨λh=>(nomatch h),λh=>absurd h (h2 hL)⟩
  | some u=>
   simp only[Yb];obtain⟨hu,hvu⟩:=h1 u hL;obtain⟨hw,huw⟩:=Qs3 r u (λp hp=>⟨(hr p hp).1,(hr p hp).2,hp⟩) hu;have hvw:=hvu.trans huw
   cases ho:over E n (rndR r u) with
   | true=>
    rw[Zc rfl];refine⟨λh=>(nomatch h),λhs=>?_⟩;exfalso;have:¬over E n (rndR r u)=false:=by rw[ho];simp
    refine this (QkU.2 λk k0 k1=>?_);rcases hw.reg with⟨g1,g2⟩ | ⟨_,g2⟩
    ·obtain⟨x,hx⟩:=hs;refine⟨g1 _ (Qcj k0 (by rw[hw.len];exact k1)),λhp=>?_⟩;have hle:=(g2 x hx).2 k k0 (by rw[hw.len];exact k1)
     cases hE:E k with
     | false=>rfl
     | true=>have:=hx.emp k k0 k1 hE;omega
    ·exact absurd hs g2
   | false=>
    rw[Zd (by simp)];have hov:=QkU.1 ho;have hz':∀z∈rndR r u,0<=z/\z<=65536:=λz hz=>by obtain⟨i,i0,i1,rfl⟩:=QiV hz;rw[hw.len] at i1;exact⟨(hw.at i0 i1).1,(hov i i0 i1).1⟩
    by_cases he:rndR r u=v
    ·rw[Zc he];refine⟨λ_=>?_,λ_=>rfl⟩;have e1:u=v:=(hvu.anti (by rw[he] at huw;exact huw)).symm;subst e1;rw[he] at hov;have fL:=Qrm l u hl hv.len hL;have fR:=Qrn r u (λp hp=>(hr p hp).2) hv.len he;refine⟨u,hv.len,hz,λy hy=>QBX (hl y hy) hv.len hz (fL y hy).1 (fL y hy).2,λa b hab hp=>?_,λk k0 k1 hE=>?_⟩
     ·have:=fR (a,b) hab;unfold imin at this;dsimp only at this;split at this<;>omega
     ·have h0:=(hz _ (Qcj k0 (by rw[hv.len];exact k1))).1;have h3:=(hov k k0 k1).2;by_cases hp:0<nth u k
      ·rw[h3 hp] at hE;cases hE
      ·omega
    ·rw[Zd he];have:=Qwq hvw λe=>he e.symm;exact Qpy hl hr f _ hw hz' (by omega)
end
def QhA (E:Int->Bool) (n:Nat) (l:List Qk) (r:List (Int×Int)):Bool:=QiG E n l r (65536 * n+1) (replicate n 0)
def Qrp (n:Nat):(replicate n (0:Int)).sum=0:=by
 induction n with
 | zero=>rfl
 | succ n ih=>rw[replicate_succ,sum_cons,ih];rfl
def Qwr {n:Nat} {E:Int->Bool} {l:List Qk} {r:List (Int×Int)} (hl:∀y∈l,VL y n) (hr:∀p∈r,(0<=p.1/\p.1<n)/\(0<=p.2/\p.2<n)):
  QhA E n l r=true↔CSat n (λy=>y∈l) (λa b=>(a,b)∈r) (λk=>E k=true):=
 Qpy hl hr _ _ CInv.zero (λz hz=>by rw[(mem_replicate.1 hz).2];omega) (by rw[Qrp];omega)
def Qpz {n:Nat} {E:Int->Bool} {l:List Qk} {r:List (Int×Int)} (hl:∀y∈l,VL y n) (hr:∀p∈r,(0<=p.1/\p.1<n)/\(0<=p.2/\p.2<n)) {ρ:Type} {body:List Int->Option (List Int⊕ρ)} (o:Bool->ρ)
  (hb:∀v:List Int,v.length=n->(∀z∈v,0<=z/\z<=65536)->body v=some (match rnd l r v with | none=>.inr (o false) | some w=>if over E n w=true then .inr (o false) else if w=v then .inr (o true) else .inl w)):
  Qm body (replicate n 0)=some (o (QhA E n l r)):=by
 have key:∀(f:Nat) (v:List Int),v.length=n->(∀z∈v,0<=z/\z<=65536)->65536 * (n:Int) - v.sum<f->Qm body v=some (o (QiG E n l r f v)):=by
  intro f
  induction f with
  | zero=>intro v hv hz hf;have:=Qro v hz;rw[hv] at this;omega
  | succ f ih=>
   intro v hv hz hf;rw[Qac,hb v hv hz];unfold QiG
   cases hR:rnd l r v with
   | none=>rfl
   | some w=>
    dsimp only
    cases ho:over E n w with
    | true=>rfl
    | false=>
     by_cases he:w=v
     ·simp only[Zc he,ZB,if_false]
     ·simp only[Zd he,ZB,if_false];unfold rnd at hR
      cases hL:rndL l v with
      | none=>rw[hL] at hR;cases hR
      | some u=>rw[hL] at hR;obtain rfl:=Zu hR;have h1:=QiX l v u hl hv hL;have h2:=QiY r u (λp hp=>(hr p hp).2) (h1.1.symm.trans hv);have h3:=h1.trans h2;have hov:=QkU.1 ho;have hw:(rndR r u).length=n:=h3.1.symm.trans hv;refine ih _ hw (λz hz'=>?_) (by have:=Qwq h3 λe=>he e.symm;omega);obtain⟨i,i0,i1,rfl⟩:=QiV hz';rw[hw] at i1;have h4:=h3.2 i i0 (by rw[hv];exact i1);have h5:=(hz _ (Qcj i0 (by rw[hv];exact i1))).1;exact⟨by omega,(hov i i0 i1).1⟩
 exact key _ _ (by simp) (λz hz=>by rw[(mem_replicate.1 hz).2];omega) (by rw[Qrp];omega)
def Qsb (a b:List Int) (ha:a.length<1000000):Qer a b=some (decide (a=b)):=by
 unfold Qer;by_cases hl:a.length=b.length
 ·rw[Zd (by simp[hl])];refine QlI a.length (λk=>a.getD k 0 !=b.getD k 0) (.inl ()) (λ_=>.inr false) ?_ ?_ ?_ ?_ ?_
  ·intro k hk hp;have hk':k<b.length:=by omega
   rw[Zf,Zb hk,Zf,Zb hk'] at hp;simp only[Yg,bne_eq_false_iff_eq] at hp;rw[Zc (by simpa using hk),QI hk,QI hk'];simp only[Za];rw[Zd (by simpa using hp),Qw hk (by omega)]
  ·intro k hk hp;have hk':k<b.length:=by omega
   rw[Zf,Zb hk,Zf,Zb hk'] at hp;simp only[Yg] at hp;rw[Zc (by simpa using hk),QI hk,QI hk'];simp only[Za];rw[Zc hp]
  ·rw[Zd (by simp)]
  ·intro hp;have:a=b:=by
    apply ext_getElem hl;intro k h1 h2;have:=hp k h1;rw[Zf,Zb h1,Zf,Zb h2] at this;simpa using this
   simp[this]
  ·intro k hk hp;have:a≠b:=by
    rintro rfl;simp at hp
   simp[this]
 ·rw[Zc (by simp;omega)];have:a≠b:=by rintro rfl;exact hl rfl
  simp[this]
def upd1 {α:Type} (R:Nat->α) (k:Nat) (v:α):Nat->α:=λq=>if q=k then v else R q
def Qij {α:Type} {R:Nat->α} {k:Nat} {v:α}:upd1 R k v k=v:=Zc rfl
def QBY {α:Type} {R:Nat->α} {k q:Nat} {v:α} (h:q≠k):upd1 R k v q=R q:=Zd h
def QlR {α:Type} {R:Nat->α} {k:Nat} {v w:α}:upd1 (upd1 R k v) k w=upd1 R k w:=by funext q;unfold upd1;split<;>rfl
def rowL {α:Type} (m:Nat) (R:Nat->α):List α:=(range m).map R
def Qm4 {α:Type} {m:Nat} {R:Nat->α}:(rowL m R).length=m:=by simp[rowL]
def QbH {α:Type} {m:Nat} {R:Nat->α} {k:Nat} (h:k<m):idx (rowL m R) (k:Int)=some (R k):=by rw[QI (by rw[Qm4];exact h)];simp[rowL]
def Qfp {α:Type} {m:Nat} {R:Nat->α} {k:Nat} (h:k<m) (v:α):setAt (rowL m R) (k:Int) v=some (rowL m (upd1 R k v)):=by
 rw[QeC (by rw[Qm4];exact h)];congr 1;apply ext_getElem
 ·simp[rowL]
 ·intro i h1 h2;simp only[rowL,getElem_set,getElem_map,getElem_range,upd1];by_cases hi:k=i
  ·rw[Zc hi,Zc hi.symm]
  ·rw[Zd hi,Zd (λh=>hi h.symm)]
def QiH {α:Type} {m:Nat} {R S:Nat->α} (h:∀k,k<m->R k=S k):rowL m R=rowL m S:=by unfold rowL;apply map_congr_left;intro k hk;exact h k (by simpa using hk)
def Qrq {α:Type} (m:Nat) (v:α):rowL m (λ_=>v)=replicate m v:=by unfold rowL;rw[map_const'];simp
abbrev INF:Int:=1099511627776
structure Ed where
 a:Nat
 b:Nat
 w:Int
def QoV (a b:Int):imin a b<=a/\imin a b<=b/\(imin a b=a\/imin a b=b):=by unfold imin;split<;>omega
def Qt7 (n:Nat) (p:Nat->Bool) (h:∃k,k<n/\p k=true):∃k,k<n/\p k=true/\∀j,j<k->p j=false:=by
 induction n with
 | zero=>obtain⟨k,hk,_⟩:=h;omega
 | succ n ih=>
  by_cases h2:∃k,k<n/\p k=true
  ·obtain⟨k,hk,hp,hm⟩:=ih h2;exact⟨k,by omega,hp,hm⟩
  ·obtain⟨k,hk,hp⟩:=h;have hkn:k=n:=by
    rcases Nat.lt_or_ge k n with h3 | h3
    ·exact (h2 ⟨k,h3,hp⟩).elim
    ·omega
   subst hkn;refine⟨k,hk,hp,λj hj=>?_⟩;rw[<-Bool.not_eq_true];exact λh3=>h2 ⟨j,hj,h3⟩
def badD (n:Int) (d:QG):Bool:=((((((decide (d.A< -1)||decide (d.A>=n))||decide (d.B< -1))||decide (d.B>=n))||d.A==d.B)||decide (d.N< -2097152))||decide (d.N>2097152))
def Qbc (n:Int) (l:List QG):Int:=if (decide (n>10)||decide ((l.length:Int)>64))=true then 4 else if decide (n<0)=true then 1 else if l.any (badD n)=true then 1 else 0
def Qsc (n:Int) (l:List QG):Qgi n l=some (Qbc n l):=by
 unfold Qgi Qbc;by_cases h1:(decide (n>10)||decide ((l.length:Int)>64))=true
 ·rw[Zc h1,Zc h1]
 ·rw[Zd h1,Zd h1];by_cases h2:decide (n<0)=true
  ·rw[Zc h2,Zc h2]
  ·rw[Zd h2,Zd h2];have hl:l.length<=64:=by simp only[Zz,Zo,not_or] at h1;omega
   refine QlI l.length (λk=>badD n (l.getD k default)) (.inl ()) (λ_=>.inr 1) ?_ ?_ ?_ ?_ ?_
   ·intro k hk hp;rw[Zc (by simpa using hk),QI hk];rw[Zf,Zb hk] at hp;simp only[Za];rw[Zd (by intro h;have:badD n l[k]=true:=h;rw[show badD n l[k]=false from hp] at this;cases this),Qw (n:=l.length) hk (by omega)]
   ·intro k hk hp;rw[Zc (by simpa using hk),QI hk];rw[Zf,Zb hk] at hp;simp only[Za];exact Zc (show badD n l[k]=true from hp)
   ·rw[Zd (by simp)]
   ·intro hno;have:l.any (badD n)=false:=by
     rw[any_eq_false];intro x hx;obtain⟨k,hk,rfl⟩:=ZY hx;have:=hno k hk;rw[Zf,Zb hk] at this;simpa using this
    simp only;rw[this];rfl
   ·intro k hk hp;rw[Zf,Zb hk] at hp;have:l.any (badD n)=true:=Yn.2 ⟨_,Zk hk,hp⟩;simp only;rw[this];rfl
def valid0 {n:Int} {l:List QG} (h:Qbc n l=0):0<=n/\n<=10/\l.length<=64/\∀d∈l,-1<=d.A/\d.A<n/\-1<=d.B/\d.B<n/\d.A≠d.B/\-2097152<=d.N/\d.N<=2097152:=by
 unfold Qbc at h;split at h
 ·cases h
 ·rename_i h1;split at h
  ·cases h
  ·rename_i h2;split at h
   ·cases h
   ·rename_i h3;simp only[Zz,Zo,not_or] at h1 h2;refine⟨by omega,by omega,by omega,λd hd=>?_⟩;have:badD n d=false:=by
     rw[<-Bool.not_eq_true];intro hb;exact h3 (Yn.2 ⟨d,hd,hb⟩)
    simp only[badD,Bool.or_eq_false_iff,ZJ,beq_eq_false_iff_ne,ne_eq] at this;obtain⟨⟨⟨⟨⟨⟨a1,a2⟩,a3⟩,a4⟩,a5⟩,a6⟩,a7⟩:=this;exact⟨by omega,by omega,by omega,by omega,a5,by omega,by omega⟩
def rowN (m:Nat) (a:Int):Nat:=if a<0 then m - 1 else a.toNat
def edN (m:Nat) (d:QG):Ed:=⟨rowN m d.A,rowN m d.B,d.N⟩
def edS (m:Nat) (d:QG):Qab:=⟨(rowN m d.A:Int),(rowN m d.B:Int),d.N⟩
def Qs4 {m:Nat} {a:Int} (h1:-1<=a) (h2:a<(m:Int) - 1):rowN m a<m:=by unfold rowN;split<;>omega
def Qs5 {m:Nat} {a:Int} (hm:1<=m) (hm2:m<=11) (h1:-1<=a) (h2:a<(m:Int) - 1):Int.tmod (i64.wrap (i64.wrap (a+((m:Int) - 1))+1)) (m:Int)=(rowN m a:Int):=by
 rw[w64 (n:=a+((m:Int) - 1)) (by omega) (by omega),w64 (by omega) (by omega)];unfold rowN;split
 ·have:a=-1:=by omega
  subst this;rw[Int.tmod_eq_emod_of_nonneg (by omega),Int.emod_eq_of_lt (by omega) (by omega)];omega
 ·rw[Int.tmod_eq_emod_of_nonneg (by omega)];have:a+((m:Int) - 1)+1=a+m:=by omega
  rw[this,Int.add_emod_right,Int.emod_eq_of_lt (by omega) (by omega)];omega
def QiZ {m:Nat} {a:Int} (h1:-1<=a) (h2:a<(m:Int) - 1):QaS ((m:Int) - 1) a=some ((rowN m a:Nat):Int):=by
 unfold QaS rowN;by_cases h:a<0
 ·rw[Zc (by simpa using h),Zc h];congr 1;omega
 ·rw[Zd (by simpa using h),Zd h];congr 1;omega
def QlS (n:Int) (d:QG):(((((decide (imin d.A d.B< -1))||(decide (imax d.A d.B>=n)))||(d.A==d.B))||(decide (d.N< -2097152)))||(decide (d.N>2097152)))=badD n d:=by
 have e:(decide (imin d.A d.B< -1)||decide (imax d.A d.B>=n))=((decide (d.A< -1)||decide (d.A>=n))||decide (d.B< -1)||decide (d.B>=n)):=by
  have i1:imin d.A d.B< -1↔(d.A< -1\/d.B< -1):=by unfold imin;split<;>omega
  have i2:imax d.A d.B>=n↔(d.A>=n\/d.B>=n):=by unfold imax;split<;>omega
  rw[ZO];simp only[Zz,Zo,i1,i2];omega
 unfold badD;rw[e]
def Qyp (n:Int) (l:List QG):Qfz n l=some (if Qbc n l=0 then (l.map (edS (n+1).toNat),0) else ([],Qbc n l)):=by
 unfold Qfz;by_cases h1:(decide (n>10)||decide ((l.length:Int)>64))=true
 ·have e:Qbc n l=4:=by unfold Qbc;rw[Zc h1]
  rw[Zc h1,e];rfl
 ·rw[Zd h1];by_cases h2:decide (n<0)=true
  ·have e:Qbc n l=1:=by unfold Qbc;rw[Zd h1,Zc h2]
   rw[Zc h2,e];rfl
  ·rw[Zd h2];have hl:l.length<=64:=by simp only[Zz,Zo,not_or] at h1;omega
   have hn:0<=n/\n<=10:=by simp only[Zz,Zo,not_or] at h1 h2;omega
   obtain⟨m,hm⟩:∃m:Nat,n=(m:Int) - 1:=⟨(n+1).toNat,by omega⟩;subst hm;have hmm:((m:Int) - 1+1).toNat=m:=by omega
   rw[hmm,Qht _ _ (by omega)];simp only[Za];have hw:i64.wrap ((m:Int) - 1+1)=(m:Int):=by rw[w64 (by omega) (by omega)];omega
   rw[hw];have st:∀k,k<l.length->badD ((m:Int) - 1) (l.getD k default)=false->∀z:List Qab,z.length=l.length->
     (idx l (k:Int)).bind (λt26=>(if (((((decide (imin t26.A t26.B< -1))||(decide (imax t26.A t26.B>=(m:Int) - 1)))||(t26.A==t26.B))||(decide (t26.N< -2097152)))||(decide (t26.N>2097152)))=true then (some (.inr (.inr ((1:Int),([]:List Qab)))):Option ((Int×List Qab)⊕((List Qab)⊕(Int×List Qab)))) else (nz (m:Int)).bind λ_=>(nz (m:Int)).bind λ_=>(setAt z (k:Int) (Qab.mk (Int.tmod (i64.wrap (i64.wrap (t26.A+((m:Int) - 1))+1)) (m:Int)) (Int.tmod (i64.wrap (i64.wrap (t26.B+((m:Int) - 1))+1)) (m:Int)) t26.N)).bind λt81s=>some (.inl (i64.wrap ((k:Int)+1),t81s))))=
     some (.inl (((k+1:Nat):Int),z.set k (edS m (l.getD k default)))):=by
    intro k hk hb z hz;rw[Zf,Zb hk] at hb ⊢;simp only[Yg] at hb ⊢;rw[QI hk];simp only[Za];rw[QlS,hb,Zd (by simp)];simp only[badD,Bool.or_eq_false_iff,ZJ,beq_eq_false_iff_ne,ne_eq] at hb;obtain⟨⟨⟨⟨⟨⟨a1,a2⟩,a3⟩,a4⟩,a5⟩,a6⟩,a7⟩:=hb;rw[QnZ (by omega)];simp only[Za];rw[Qs5 (by omega) (by omega) (by omega) (by omega),Qs5 (by omega) (by omega) (by omega) (by omega),QeC (by omega)];simp only[Za];rw[Qw (n:=l.length) hk (by omega)];rfl
   by_cases hb:l.any (badD ((m:Int) - 1))=true
   ·have e:Qbc ((m:Int) - 1) l=1:=by unfold Qbc;rw[Zd h1,Zd h2,Zc hb]
    rw[e,Zd (by decide)];obtain⟨k0,hk0,hp0,hmin⟩:=Qt7 l.length (λk=>badD ((m:Int) - 1) (l.getD k default)) (by obtain⟨x,hx,hp⟩:=Yn.1 hb;obtain⟨k,hk,rfl⟩:=ZY hx;exact⟨k,hk,by rw[Zf,Zb hk];exact hp⟩);refine Qb8 k0 (λk=>((k:Int),(l.map (edS m)).take k++(replicate l.length (Qab.mk 0 0 0)).drop k)) (.inr ((1:Int),([]:List Qab))) (by simp) ?_ ?_ rfl
    ·intro k hk;simp only;rw[Zc (by simp;omega),st k (by omega) (hmin k hk) _ (by simp;omega)];have h2:edS m (l.getD k default)=(l.map (edS m))[k]'(by simp;omega):=by
      rw[Zf,Zb (by omega)];simp
     rw[h2,Qq2 _ _ (by simp;omega) (by simp;omega)]
    ·simp only;rw[Zc (by simpa using hk0),QI hk0];simp only[Za];rw[Zf,Zb hk0] at hp0;rw[QlS,Zc (show badD _ l[k0]=true from hp0)]
   ·have hb':l.any (badD ((m:Int) - 1))=false:=by simpa using hb
    have e:Qbc ((m:Int) - 1) l=0:=by unfold Qbc;rw[Zd h1,Zd h2,Zd hb]
    rw[e,Zc rfl];have hall:∀k,k<l.length->badD ((m:Int) - 1) (l.getD k default)=false:=by intro k hk;rw[any_eq_false] at hb';have:=hb' _ (Zk hk);rw[Zf,Zb hk];simpa using this
    refine Qb8 l.length (λk=>((k:Int),(l.map (edS m)).take k++(replicate l.length (Qab.mk 0 0 0)).drop k)) (.inl (l.map (edS m))) (by simp) ?_ ?_ rfl
    ·intro k hk;simp only;rw[Zc (by simpa using hk),st k hk (hall k hk) _ (by simp;omega)];have h2:edS m (l.getD k default)=(l.map (edS m))[k]'(by simpa using hk):=by
      rw[Zf,Zb hk];simp
     rw[h2,Qq2 _ _ (by simpa using hk) (by simpa using hk)]
    ·simp only;rw[Zd (by simp)];simp[ZG]
structure QdL (m:Nat) (l:List QG):Prop where
 m1:1<=m
 m11:m<=11
 len:l.length<=64
 ok:∀d∈l,-1<=d.A/\d.A<(m:Int) - 1/\-1<=d.B/\d.B<(m:Int) - 1/\d.A≠d.B/\-2097152<=d.N/\d.N<=2097152
def Qm5 {n:Int} {l:List QG} (h:Qbc n l=0):∃m:Nat,n=(m:Int) - 1/\QdL m l:=by obtain⟨h1,h2,h3,h4⟩:=valid0 h;refine⟨(n+1).toNat,by omega,by omega,by omega,h3,λd hd=>?_⟩;obtain⟨a1,a2,a3,a4,a5,a6,a7⟩:=h4 d hd;exact⟨a1,by omega,a3,by omega,a5,a6,a7⟩
def Qqh {m:Nat} {l:List QG} (hv:QdL m l):∀e∈l.map (edN m),e.a<m/\e.b<m/\e.w<=2097152:=by intro e he;obtain⟨d,hd,rfl⟩:=ZE.1 he;obtain⟨a1,a2,a3,a4,_,_,a7⟩:=hv.ok d hd;exact⟨Qs4 a1 a2,Qs4 a3 a4,a7⟩
def Qoe {m:Nat} (hm:m<=11):i64.wrap ((m:Int) - 1+1)=(m:Int):=by rw[w64 (by omega) (by omega)];omega
def Qws {m:Nat} (h1:1<=m) (h2:m<=11):QbV [(1099511627776:Int)] (m:Int)=some (rowL m λ_=>INF):=by
 have key:∀m:Nat,m<12->1<=m->Qev 20 [(1099511627776:Int)] (m:Int)=some (rowL m λ_=>INF):=by decide+kernel
 exact LeC.le (x:=Qev 20 [(1099511627776:Int)] (m:Int)) _ (key m (by omega) h1)
def Qde (L r:Nat->Int) (x:Ed):Nat->Int:=if L x.b<INF then upd1 r x.a (imin (r x.a) (i64.wrap (L x.b+x.w))) else r
def lay (a0:Nat) (tl:List Ed):Nat->Nat->Int
 | 0=>upd1 (λ_=>INF) a0 0
 | s+1=>tl.foldl (Qde (lay a0 tl s)) (λ_=>INF)
def Qds (L:Nat->Int) (sum n:Int) (v:Nat):Bool:=decide (L v<INF)&&decide (i64.wrap (i64.wrap (sum+n)+L v)<0)
abbrev WkB:=Nat×List Int×Int
def inS (E:List Ed) (L:Nat->Int):Nat->Nat->WkB->WkB
 | 0,_,st=>st
 | k+1,i,st=>if ((E.getD i ⟨0,0,0⟩).a==st.1&&Qds L st.2.2 (E.getD i ⟨0,0,0⟩).w (E.getD i ⟨0,0,0⟩).b)=true then ((E.getD i ⟨0,0,0⟩).b,st.2.1++[(i:Int)],i64.wrap (st.2.2+(E.getD i ⟨0,0,0⟩).w)) else inS E L k (i+1) st
def outS (E:List Ed) (Ly:Nat->Nat->Int) (first:Nat):Nat->WkB->WkB
 | 0,st=>st
 | k+1,st=>outS E Ly first k (inS E (Ly k) (E.length - (first+1)) (first+1) st)
def QaX (E:List Ed) (many first:Nat):List Int:=
 if Qds (lay (E.getD first ⟨0,0,0⟩).a (E.drop (first+1)) (many - 1)) (E.getD first ⟨0,0,0⟩).w 0 (E.getD first ⟨0,0,0⟩).b=true then
  (outS E (lay (E.getD first ⟨0,0,0⟩).a (E.drop (first+1))) first (many - 1) ((E.getD first ⟨0,0,0⟩).b,[(first:Int)],(E.getD first ⟨0,0,0⟩).w)).2.1
 else []
def Qg2 (f:Nat->List Int):Nat->Nat->Option (List Int)
 | 0,_=>none
 | k+1,i=>if (f i).isEmpty=true then Qg2 f k (i+1) else some (f i)
def Qdt (f:Nat->Nat->List Int) (len:Nat):Nat->Nat->Option (List Int)
 | 0,_=>none
 | k+1,many=>match Qg2 (f many) len 0 with | some p=>some p | none=>Qdt f len k (many+1)
def cycS (n:Int) (l:List QG):List Int×Int:=if Qbc n l≠0 then ([],Qbc n l) else match Qdt (QaX (l.map (edN (n+1).toNat))) l.length n.toNat 2 with | some p=>(p,0) | none=>([],6)
def QoW {E:List Ed} {L:Nat->Int}:∀k i st,st.2.1.length<=(inS E L k i st).2.1.length/\(inS E L k i st).2.1.length<=st.2.1.length+1:=by
 intro k
 induction k with
 | zero=>intro i st;unfold inS;omega
 | succ k ih=>
  intro i st;unfold inS;split
  ·simp
  ·exact ih _ _
def Qm6 {E:List Ed} {Ly:Nat->Nat->Int} {first:Nat}:∀k st,st.2.1.length<=(outS E Ly first k st).2.1.length/\(outS E Ly first k st).2.1.length<=st.2.1.length+k:=by
 intro k
 induction k with
 | zero=>intro st;unfold outS;omega
 | succ k ih=>intro st;unfold outS;have h1:=QoW (E:=E) (L:=Ly k) (E.length - (first+1)) (first+1) st;have h2:=ih (inS E (Ly k) (E.length - (first+1)) (first+1) st);omega
def Qwt {α:Type} {k:Nat} {F:Nat->α}:rowL k F++[F k]=rowL (k+1) F:=by unfold rowL;rw[ZX,ZT];rfl
def Qm7 {m:Nat} {l:List QG} {i:Nat} (h:i<l.length):idx (l.map (edS m)) (i:Int)=some (edS m l[i]):=by rw[QI (by simpa using h)];simp
def QkV {m:Nat} {l:List QG} {i:Nat} (h:i<l.length):(l.map (edN m)).getD i ⟨0,0,0⟩=edN m l[i]:=by rw[Zf,Zb (by simpa using h)];simp
def Qs6 {m:Nat} {c0:List (List Int)} {s:Int} {L:Nat->Int} {v:Nat} (n c1:Int) (hs:idx c0 s=some (rowL m L)) (hv:v<m):Qcf (v:Int) s n c0 c1=some (Qds L c1 n v):=by
 unfold Qcf Qds;rw[hs];simp only[Za];rw[QbH hv];simp only[Za];by_cases h:L v<INF
 ·rw[show (decide (L v<1099511627776)==true)=true by simpa using h];simp only[Qi9,Za];rw[QbH hv];rfl
 ·rw[show (decide (L v<1099511627776)==true)=false by simpa using h];simp only[Qic,Za];have:decide (L v<1099511627776)=false:=by simpa using h
  rw[this];rfl
def Qwu (m:Nat) (l:List QG):Prop:=∀d∈l,rowN m d.A<m/\rowN m d.B<m
def Qt8 {m:Nat} {tl:List QG} (hl:tl.length<1000000) (hin:Qwu m tl) {L:Nat->Int} {T:List (List Int)} {s:Int} (hT:idx T s=some (rowL m L)):
  Qm (λ(s201:Int×List Int)=>((if (decide (s201.1<((tl.map (edS m)).length:Int)))=true then (idx (tl.map (edS m)) s201.1).bind λt52=>(idx T s).bind λr223=>(idx r223 (t52).b).bind λt61=>((if (decide (t61<(1099511627776:Int)))=true then (idx s201.2 (t52).a).bind λt71=>(setAt s201.2 (t52).a (imin t71 (i64.wrap (t61+(t52).n)))).bind λt78s=>(some t78s) else (some s201.2))).bind λ(p225:List Int)=>(some (.inl ((i64.wrap (s201.1+(1:Int))),p225))) else (some (.inr s201.2))):Option ((Int×List Int)⊕((List Int))))) ((0:Int),rowL m λ_=>INF)=some (rowL m ((tl.map (edN m)).foldl (Qde L) λ_=>INF)):=by
 refine QbZ tl.length (λk=>((k:Int),rowL m (((tl.take k).map (edN m)).foldl (Qde L) λ_=>INF))) _ ?_ ?_
 ·intro k hk;simp only;obtain⟨ha,hb⟩:=hin _ (Zk hk);rw[Zc (by simpa using hk),Qm7 hk];simp only[Za,edS];rw[hT];simp only[Za];rw[QbH hb];simp only[Za];rw[Qw hk (by omega),Zw hk,ZT,foldl_append];generalize ((tl.take k).map (edN m)).foldl (Qde L) (λ_=>INF)=r;simp only[Yf,Yu,foldl_cons,foldl_nil];unfold Qde edN;simp only;by_cases h:L (rowN m tl[k].B)<INF
  ·rw[Zc h,Zc (by simpa using h),QbH ha];simp only[Za];rw[Qfp ha];rfl
  ·rw[Zd h,Zd (by simpa using h)];rfl
 ·rw[Zd (by simp),take_length]
def Qrr {m:Nat} {l:List QG} {i:Nat}:(l.map (edN m)).drop i=(l.drop i).map (edN m):=by rw[map_drop]
def Qyq {m:Nat} {l:List QG} (hv:QdL m l) {first many:Nat} (hf:first<l.length) (h2:2<=many) (hm:many<=m):
  Qdx ((m:Int) - 1) (l.map (edS m)) (first:Int) (many:Int)=some (QaX (l.map (edN m)) many first):=by
 have hm11:=hv.m11;have hlen:=hv.len;have hin:Qwu m l:=λd hd=>by have h:=Qqh hv (edN m d) (ZZ hd);exact⟨h.1,h.2.1⟩
 unfold Qdx QaX;obtain⟨ha,hb⟩:=hin _ (Zk hf);rw[Qoe hm11,Qws hv.m1 hm11,QkV hf,Qrr];simp only[Za];generalize hLy:lay (edN m l[first]).a ((l.drop (first+1)).map (edN m))=Ly;have e0B:idx [rowL m λ_=>INF] (0:Int)=some (rowL m λ_=>INF):=rfl;rw[e0B,Qm7 hf];simp only[Za,edS];rw[Qfp ha];simp only[Za];have e1:setAt [rowL m λ_=>INF] (0:Int) (rowL m (upd1 (λ_=>INF) (rowN m l[first].A) 0))=some (rowL 1 λq=>rowL m (Ly q)):=by rw[<-hLy];rfl
 rw[e1];simp only[Za];refine Qb8 (many - 1) (λk=>(((k+1:Nat):Int),rowL (k+1) λq=>rowL m (Ly q))) (rowL many λq=>rowL m (Ly q)) rfl ?_ ?_ ?_
 ·intro k hk;simp only;rw[Zc (by simp;omega)];have e3:sub (l.map (edS m)) (i64.wrap ((first:Int)+1)) ((l.map (edS m)).length:Int)=some ((l.drop (first+1)).map (edS m)):=by
   rw[w64 (by omega) (by omega)];unfold sub;rw[Zc (by simp;omega),show ((first:Int)+1).toNat=first+1 by omega,ZG (by simp),map_drop]
  rw[e3];simp only[Za];have e4:idx (rowL (k+1) λq=>rowL m (Ly q)) (i64.wrap (((k+1:Nat):Int) - 1))=some (rowL m (Ly k)):=by rw[w64 (by omega) (by omega),show ((k+1:Nat):Int) - 1=(k:Int) by omega,QbH (by omega)]
  rw[Qt8 (by simp;omega) (λd hd=>hin d (mem_of_mem_drop hd)) e4];simp only[Za];rw[QaT (by rw[Qm4];omega)];simp only[Za];have e5:((l.drop (first+1)).map (edN m)).foldl (Qde (Ly k)) (λ_=>INF)=Ly (k+1):=by rw[<-hLy];rfl
  rw[e5,Qw (n:=many) (by omega) (by omega)];have:=Qwt (k:=k+1) (F:=λq=>rowL m (Ly q));rw[this]
 ·rw[Zd (by simp;omega),show many - 1+1=many by omega]
 ·have e6:idx (rowL many λq=>rowL m (Ly q)) (i64.wrap ((many:Int) - 1))=some (rowL m (Ly (many - 1))):=by
   rw[w64 (by omega) (by omega),show (many:Int) - 1=((many - 1:Nat):Int) by omega,QbH (by omega)]
  rw[Qs6 _ _ e6 hb];simp only[Za];by_cases hg:Qds (Ly (many - 1)) l[first].N 0 (rowN m l[first].B)=true
  ·rw[hg];rw[Zd (by simp),Zc (by simpa[edN] using hg)];have inn:∀(L:Nat->Int) (s:Int),idx (rowL many λq=>rowL m (Ly q)) s=some (rowL m L)->∀(k i:Nat) (st:WkB),i+k=l.length->st.2.1.length<=100->
     (Qm (λ(s165:Int)=>((if (decide (s165<((l.map (edS m)).length:Int)))=true then (idx (l.map (edS m)) s165).bind λt119=>(opt (((t119).a==(st.1:Int))==true) (Qcf (t119).b s (t119).n (rowL many λq=>rowL m (Ly q)) st.2.2) default).bind λt132=>(if (((t119).a==(st.1:Int))&&t132)=true then (rm (st.2.1.length+[s165].length)).bind λ_=>(some (.inr (.inr ((t119).b,(st.2.1++[s165]),(i64.wrap (st.2.2+(t119).n)))))) else (some (.inl (i64.wrap (s165+(1:Int)))))) else (some (.inr (.inl ())))):Option ((Int)⊕((Unit)⊕(Int×List Int×Int))))) (i:Int)).bind (λ(e167:(Unit)⊕(Int×List Int×Int))=>(match e167 with | .inl _=>(some ((st.1:Int),st.2.1,st.2.2)) | .inr p179=>(some (p179.1,p179.2.1,p179.2.2))))=
     some (((inS (l.map (edN m)) L k i st).1:Int),(inS (l.map (edN m)) L k i st).2.1,(inS (l.map (edN m)) L k i st).2.2):=by
    intro L s hs k
    induction k with
    | zero=>intro i st hi _;rw[Qac];rw[Zd (by simp;omega)];rfl
    | succ k ih=>
     intro i st hi hst;have hil:i<l.length:=by omega
     obtain⟨ha,hb⟩:=hin _ (Zk hil);rw[Qac];rw[Zc (by simpa using hil),Qm7 hil];simp only[Za,edS];unfold inS;rw[QkV hil,Qs6 _ _ hs hb];have ea:(((rowN m l[i].A:Nat):Int)==(st.1:Int))=((edN m l[i]).a==st.1):=by rw[ZO];simp only[edN,ZW];omega
     rw[ea];by_cases hc:((edN m l[i]).a==st.1)=true
     ·rw[hc];simp only[BEq.rfl,Qi9,Za,Bool.true_and];by_cases hg:Qds L st.2.2 l[i].N (rowN m l[i].B)=true
      ·rw[Zc hg,Zc (by simpa[edN] using hg),QaT (by simp;omega)];rfl
      ·rw[Zd hg,Zd (by simpa[edN] using hg)];simp only;rw[Qw hil (by omega)];exact ih (i+1) st (by omega) hst
     ·have hc':((edN m l[i]).a==st.1)=false:=by simpa using hc
      rw[hc'];simp only[show (false==true)=false from rfl,Qic,Za,Bool.false_and,ZB,if_false];rw[Qw hil (by omega)];exact ih (i+1) st (by omega) hst
   have out:∀(k:Nat) (st:WkB),k<many->st.2.1.length+k<=100->
     Qm (λ(s65:Int×Int×List Int×Int)=>((if (decide (s65.1>=(0:Int)))=true then ((Qm (λ(s165:Int)=>((if (decide (s165<((l.map (edS m)).length:Int)))=true then (idx (l.map (edS m)) s165).bind λt119=>(opt (((t119).a==s65.2.1)==true) (Qcf (t119).b s65.1 (t119).n (rowL many λq=>rowL m (Ly q)) s65.2.2.2) default).bind λt132=>(if (((t119).a==s65.2.1)&&t132)=true then (rm (s65.2.2.1.length+[s165].length)).bind λ_=>(some (.inr (.inr ((t119).b,(s65.2.2.1++[s165]),(i64.wrap (s65.2.2.2+(t119).n)))))) else (some (.inl (i64.wrap (s165+(1:Int)))))) else (some (.inr (.inl ())))):Option ((Int)⊕((Unit)⊕(Int×List Int×Int))))) (i64.wrap ((first:Int)+(1:Int)))).bind λ(e167:(Unit)⊕(Int×List Int×Int))=>(match e167 with | .inl _=>(some (s65.2.1,s65.2.2.1,s65.2.2.2)) | .inr p179=>(some (p179.1,p179.2.1,p179.2.2)))).bind λ(p135:Int×List Int×Int)=>(some (.inl ((i64.wrap (s65.1 - (1:Int))),p135.1,p135.2.1,p135.2.2))) else (some (.inr s65.2.2.1))):Option ((Int×Int×List Int×Int)⊕((List Int)))))
      ((k:Int) - 1,(st.1:Int),st.2.1,st.2.2)=some (outS (l.map (edN m)) Ly first k st).2.1:=by
    intro k
    induction k with
    | zero=>intro st _ _;rw[Qac];simp only;rw[Zd (by simp)];rfl
    | succ k ih=>
     intro st hk hst;have e7:idx (rowL many λq=>rowL m (Ly q)) (((k+1:Nat):Int) - 1)=some (rowL m (Ly k)):=by rw[show ((k+1:Nat):Int) - 1=(k:Int) by omega,QbH (by omega)]
     have e8:=inn (Ly k) (((k+1:Nat):Int) - 1) e7 (l.length - (first+1)) (first+1) st (by omega) (by omega);have hlen:=QoW (E:=l.map (edN m)) (L:=Ly k) (l.length - (first+1)) (first+1) st;rw[Qac];simp only;rw[<-Qw (n:=l.length) (k:=first) (by omega) (by omega)] at e8;rw[Zc (by simp),e8];simp only[Za];rw[w64 (n:=((k+1:Nat):Int) - 1 - 1) (by omega) (by omega),show ((k+1:Nat):Int) - 1 - 1=(k:Int) - 1 by omega];refine (ih (inS (l.map (edN m)) (Ly k) (l.length - (first+1)) (first+1) st) (by omega) (by omega)).trans ?_
     conv=>rhs;unfold outS
     rw[Zv]
   have e9:=out (many - 1) (rowN m l[first].B,[(first:Int)],l[first].N) (by omega) (by simp;omega);rw[show ((many - 1:Nat):Int) - 1=i64.wrap ((many:Int) - 2) by rw[w64 (by omega) (by omega)];omega] at e9;simp only at e9;refine (Ya (Option.bind · _) e9).trans ?_;simp only[Za];have hne:=(Qm6 (E:=l.map (edN m)) (Ly:=Ly) (first:=first) (many - 1) (rowN m l[first].B,[(first:Int)],l[first].N)).1;have:ne (outS (l.map (edN m)) Ly first (many - 1) (rowN m l[first].B,[(first:Int)],l[first].N)).2.1=some ():=by
    cases h:(outS (l.map (edN m)) Ly first (many - 1) (rowN m l[first].B,[(first:Int)],l[first].N)).2.1 with
    | nil=>rw[h] at hne;simp at hne
    | cons _ _=>rfl
   rw[this];rfl
  ·have hg':Qds (Ly (many - 1)) l[first].N 0 (rowN m l[first].B)=false:=by simpa using hg
   rw[hg',Zc (by simp),Zd (by simpa[edN] using hg)]
def Qs7 {α:Type} {F:Nat->α} {k q:Nat} {v:α}:upd1 F k v q=if q=k then v else F q:=rfl
def Qyr {m M k:Nat} (hk:k<M) (hm:m<1000000) (F:Nat->List Int):
  Qm (λ(s224:Int×List (List Int))=>((if (decide (s224.1<=(m:Int) - 1))=true then (idx s224.2 (k:Int)).bind λr282=>(setAt r282 s224.1 (1099511627776:Int)).bind λt41s=>(setAt s224.2 (k:Int) t41s).bind λm283=>(some (.inl ((i64.wrap (s224.1+(1:Int))),m283))) else (some (.inr s224.2))):Option ((Int×List (List Int))⊕((List (List Int)))))) ((0:Int),rowL M (upd1 F k (rowL m λ_=>0)))=some (rowL M (upd1 F k (rowL m λ_=>INF))):=by
 have h:=QbZ (body:=(λ(s224:Int×List (List Int))=>((if (decide (s224.1<=(m:Int) - 1))=true then (idx s224.2 (k:Int)).bind λr282=>(setAt r282 s224.1 (1099511627776:Int)).bind λt41s=>(setAt s224.2 (k:Int) t41s).bind λm283=>(some (.inl ((i64.wrap (s224.1+(1:Int))),m283))) else (some (.inr s224.2))):Option ((Int×List (List Int))⊕((List (List Int))))))) m
  (λj=>((j:Int),rowL M (upd1 F k (rowL m λq=>if q<j then INF else 0)))) (rowL M (upd1 F k (rowL m λ_=>INF))) ?_ ?_
 ·simpa using h
 ·intro j hj;simp only;rw[Zc (by simp;omega),QbH hk];simp only[Za,Qij];rw[Qfp hj];simp only[Za];rw[Qfp hk,QlR];simp only[Za];rw[Qw hj (by omega)];congr 5;refine QiH λq _=>?_;rw[Qs7];by_cases h:q=j
  ·rw[Zc h,Zc (by omega)]
  ·rw[Zd h];by_cases h2:q<j
   ·rw[Zc h2,Zc (by omega)]
   ·rw[Zd h2,Zd (by omega)]
 ·simp only;rw[Zd (by simp;omega)];congr 4;exact QiH λq hq=>by rw[Zc hq]
def Qsd {m M k first:Nat} {l:List QG} (hm:m<=11) (hk:k+1<M) (hM:M<1000000) (hl:l.length<1000000) (hf:first<l.length) (hin:∀d∈l,-1<=d.A/\d.A<(m:Int) - 1/\-1<=d.B/\d.B<(m:Int) - 1/\rowN m d.A<m/\rowN m d.B<m) (L:Nat->Int) (F:Nat->List Int) (hF:F k=rowL m L):
  Qm (λ(s239:Int×List (List Int))=>((if (decide (s239.1<(l.length:Int)))=true then (idx l s239.1).bind λt60=>(QaS ((m:Int) - 1) (t60).A).bind λt63=>(idx l s239.1).bind λt67=>(QaS ((m:Int) - 1) (t67).B).bind λt70=>(idx s239.2 (i64.wrap (((k+1:Nat):Int) - (1:Int)))).bind λr266=>(idx r266 t70).bind λt77=>((if (decide (t77<(1099511627776:Int)))=true then (idx s239.2 ((k+1:Nat):Int)).bind λr272=>(idx r272 t63).bind λt90=>(idx l s239.1).bind λt94=>(idx s239.2 (i64.wrap (((k+1:Nat):Int) - (1:Int)))).bind λr273=>(idx r273 t70).bind λt103=>(setAt r272 t63 (imin t90 (i64.wrap ((t94).N+t103)))).bind λt107s=>(setAt s239.2 ((k+1:Nat):Int) t107s).bind λm274=>(some m274) else (some s239.2))).bind λ(p267:List (List Int))=>(some (.inl ((i64.wrap (s239.1+(1:Int))),p267))) else (some (.inr s239.2))):Option ((Int×List (List Int))⊕((List (List Int)))))) ((i64.wrap ((first:Int)+(1:Int))),rowL M (upd1 F (k+1) (rowL m λ_=>INF)))=some (rowL M (upd1 F (k+1) (rowL m (((l.drop (first+1)).map (edN m)).foldl (Qde L) λ_=>INF)))):=by
 have hw:i64.wrap (((k+1:Nat):Int) - 1)=(k:Int):=by rw[w64 (by omega) (by omega)];omega
 rw[hw,Qw hf (by omega)];refine QbZ (l.length - (first+1)) (λj=>(((first+1+j:Nat):Int),rowL M (upd1 F (k+1) (rowL m ((((l.drop (first+1)).take j).map (edN m)).foldl (Qde L) λ_=>INF))))) _ ?_ ?_
 ·intro j hj;simp only;have hi:first+1+j<l.length:=by omega
  obtain⟨a1,a2,b1,b2,ha,hb⟩:=hin _ (Zk hi);rw[Zc (by simp;omega),QI hi];simp only[Za];rw[QiZ a1 a2,QiZ b1 b2];simp only[Za];have e1:∀R,idx (rowL M (upd1 F (k+1) R)) (k:Int)=some (rowL m L):=λR=>by rw[QbH (by omega),QBY (by omega),hF]
  have e2:∀R,idx (rowL M (upd1 F (k+1) R)) ((k+1:Nat):Int)=some R:=λR=>by rw[QbH hk,Qij]
  rw[e1];simp only[Za];rw[QbH hb];simp only[Za];have hdl:j<(l.drop (first+1)).length:=by simp;omega
  rw[Qw hi (by omega),Zw hdl,ZT,foldl_append];generalize (((l.drop (first+1)).take j).map (edN m)).foldl (Qde L) (λ_=>INF)=r;simp only[Yf,Yu,foldl_cons,foldl_nil,getElem_drop];unfold Qde edN;simp only;by_cases h:L (rowN m l[first+1+j].B)<INF
  ·rw[Zc h,Zc (by simpa using h),e2];simp only[Za];rw[QbH ha];simp only[Za];rw[Qfp ha];simp only[Za];rw[Qfp hk,QlR,Int.add_comm];rfl
  ·rw[Zd h,Zd (by simpa using h)];rfl
 ·simp only;rw[Zd (by simp;omega),ZG (by simp)]
def QBZ {m:Nat} {l:List QG} (hv:QdL m l) {first to most:Nat} (hf:first<l.length) (ht:to<m) (hm:most<=m):
  QfP ((m:Int) - 1) l (first:Int) (to:Int) (most:Int)=some (rowL (most+1) λq=>rowL m (lay to ((l.drop (first+1)).map (edN m)) q)):=by
 have hm11:=hv.m11;have hlen:=hv.len;have hin:∀d∈l,-1<=d.A/\d.A<(m:Int) - 1/\-1<=d.B/\d.B<(m:Int) - 1/\rowN m d.A<m/\rowN m d.B<m:=λd hd=>by have h:=Qqh hv (edN m d) (ZZ hd);have g:=hv.ok d hd;exact⟨g.1,g.2.1,g.2.2.1,g.2.2.2.1,h.1,h.2.1⟩
 unfold QfP;rw[Qw (n:=most+1) (k:=most) (by omega) (by omega),Qht _ _ (by omega)];simp only[Za];generalize hLy:lay to ((l.drop (first+1)).map (edN m))=Ly;refine Qb8 (most+1) (λk=>((k:Int),rowL (most+1) λq=>if q<k then rowL m (Ly q) else [])) (rowL (most+1) λq=>rowL m (Ly q)) ?_ ?_ ?_ rfl
 ·simp only[Nat.not_lt_zero,if_false];rw[Qrq];rfl
 ·intro k hk;simp only;rw[Zc (by simp;omega),Qoe hm11,Qht _ _ (by omega)];simp only[Za];rw[Qfp hk];simp only[Za];rw[<-Qrq,Qyr hk (by omega)];simp only[Za];have fin:∀R:List Int,R=rowL m (Ly k)->rowL (most+1) (upd1 (λq=>if q<k then rowL m (Ly q) else []) k R)=rowL (most+1) λq=>if q<k+1 then rowL m (Ly q) else []:=by
   rintro R rfl;refine QiH λq _=>?_;rw[Qs7];by_cases h:q=k
   ·rw[Zc h,Zc (by omega),h]
   ·rw[Zd h];by_cases h2:q<k
    ·rw[Zc h2,Zc (by omega)]
    ·rw[Zd h2,Zd (by omega)]
  rw[Qw hk (by omega)]
  cases k with
  | zero=>
   rw[Zc (by rfl)];have e1:idx (rowL (most+1) (upd1 (λq=>if q<0 then rowL m (Ly q) else []) 0 (rowL m λ_=>INF))) ((0:Nat):Int)=some (rowL m λ_=>INF):=by rw[QbH hk,Qij]
   rw[show ((0:Nat):Int)=0 from rfl] at e1;rw[e1];simp only[Za];rw[Qfp ht];simp only[Za];have e2:=Qfp (R:=upd1 (λq=>if q<0 then rowL m (Ly q) else []) 0 (rowL m λ_=>INF)) hk (rowL m (upd1 (λ_=>INF) to 0));rw[show ((0:Nat):Int)=0 from rfl] at e2;rw[e2];simp only[Za];rw[QlR,fin _ (by rw[<-hLy];rfl)]
  | succ k=>rw[Zd (by simp;omega)];rw[Qsd hm11 hk (by omega) (by omega) hf hin (Ly k) (λq=>if q<k+1 then rowL m (Ly q) else []) (Zc (by omega))];simp only[Za];rw[fin _ (by rw[<-hLy];rfl)]
 ·simp only;rw[Zd (by simp;omega)];congr 2;exact QiH λq hq=>by rw[Zc hq]
def Qjf {E:List Ed} {many first:Nat}:(QaX E many first).isEmpty=!Qds (lay (E.getD first ⟨0,0,0⟩).a (E.drop (first+1)) (many - 1)) (E.getD first ⟨0,0,0⟩).w 0 (E.getD first ⟨0,0,0⟩).b:=by
 unfold QaX;split
 ·next h=>
  rw[h];have hne:=(Qm6 (E:=E) (Ly:=lay (E.getD first ⟨0,0,0⟩).a (E.drop (first+1))) (first:=first) (many - 1) ((E.getD first ⟨0,0,0⟩).b,[(first:Int)],(E.getD first ⟨0,0,0⟩).w)).1
  cases h:(outS E (lay (E.getD first ⟨0,0,0⟩).a (E.drop (first+1))) first (many - 1) ((E.getD first ⟨0,0,0⟩).b,[(first:Int)],(E.getD first ⟨0,0,0⟩).w)).2.1 with
  | nil=>rw[h] at hne;simp at hne
  | cons _ _=>rfl
 ·next h=>rw[Bool.not_eq_true] at h;rw[h];rfl
def Qwv {m:Nat} {l:List QG} (hv:QdL m l) {many:Nat} (h2:2<=many) (hm:many<=m):∀(k i:Nat),i+k=l.length->
  Qm (λ(s46:Int)=>((if (decide (s46<((l.map (edS m)).length:Int)))=true then (Qdx ((m:Int) - 1) (l.map (edS m)) s46 (many:Int)).bind λt35=>(if (!t35.isEmpty)=true then (some (.inr (.inr (t35,(0:Int))))) else (some (.inl (i64.wrap (s46+(1:Int)))))) else (some (.inr (.inl ())))):Option ((Int)⊕((Unit)⊕((List Int)×Int))))) (i:Int)=
   some (match Qg2 (QaX (l.map (edN m)) many) k i with | some p=>.inr (p,0) | none=>.inl ()):=by
 have hlen:=hv.len;intro k
 induction k with
 | zero=>intro i hi;rw[Qac];rw[Zd (by simp;omega)];rfl
 | succ k ih=>
  intro i hi;rw[Qac];rw[Zc (by simp;omega),Qyq hv (by omega) h2 hm];simp only[Za];unfold Qg2
  cases h:(QaX (l.map (edN m)) many i).isEmpty with
  | true=>simp only[Bool.not_true,ZB,if_false,if_true];rw[Qw (n:=l.length) (by omega) (by omega)];exact ih (i+1) (by omega)
  | false=>simp only[Bool.not_false,if_true,ZB,if_false]
def cyc_is (n:Int) (l:List QG):QfA n l=some (cycS n l):=by
 unfold QfA cycS;rw[Qyp];simp only[Za];by_cases h:Qbc n l=0
 ·obtain⟨m,rfl,hv⟩:=Qm5 h;have hm11:=hv.m11;have hm1:=hv.m1;rw[Zc h,Zd (by simp[h])];have hn:¬(Qbc ((m:Int) - 1) l≠0):=λg=>g h;rw[Zd hn,show ((m:Int) - 1+1).toNat=m by omega,show ((m:Int) - 1).toNat=m - 1 by omega,Qoe hm11];have key:∀(k many:Nat),2<=many->many+k=m+1->Qm (λ(s8:Int)=>((if (decide (s8<=(m:Int)))=true then (Qm (λ(s46:Int)=>((if (decide (s46<((l.map (edS m)).length:Int)))=true then (Qdx ((m:Int) - 1) (l.map (edS m)) s46 s8).bind λt35=>(if (!t35.isEmpty)=true then (some (.inr (.inr (t35,(0:Int))))) else (some (.inl (i64.wrap (s46+(1:Int)))))) else (some (.inr (.inl ())))):Option ((Int)⊕((Unit)⊕((List Int)×Int))))) (0:Int)).bind λ(e47:(Unit)⊕((List Int)×Int))=>(match e47 with | .inl p57=>(some (.inl (i64.wrap (s8+(1:Int))))) | .inr p58=>(some (.inr (.inr (p58.1,p58.2))))) else (some (.inr (.inl ())))):Option ((Int)⊕((Unit)⊕((List Int)×Int))))) (many:Int)=
    some (match Qdt (QaX (l.map (edN m))) l.length k many with | some p=>.inr (p,0) | none=>.inl ()):=by
   intro k
   induction k with
   | zero=>intro many h2 hk;rw[Qac];rw[Zd (by simp;omega)];rfl
   | succ k ih=>
    intro many h2 hk;rw[Qac];have hin:=Qwv hv h2 (show many<=m by omega) l.length 0 (by omega);rw[show ((0:Nat):Int)=0 from rfl] at hin;rw[Zc (by simp;omega),hin];simp only[Za];unfold Qdt
    cases hs:Qg2 (QaX (l.map (edN m)) many) l.length 0 with
    | some p=>rfl
    | none=>simp only;rw[Qw (n:=m+1) (k:=many) (by omega) (by omega)];exact ih (many+1) (by omega) (by omega)
  have h2:=key (m - 1) 2 (by omega) (by omega);rw[show ((2:Nat):Int)=2 from rfl] at h2;refine (Ya (Option.bind · _) h2).trans ?_;simp only[Za];cases Qdt (QaX (l.map (edN m))) l.length (m - 1) 2<;>rfl
 ·rw[Zd h,Zc h];simp only;rw[Zc (by simpa using h)]
def Qjg (m:Nat) (l:List QG) (s8 s196:Int):Option ((Int)⊕((Unit)⊕(Int×List Int))):=(idx l s196).bind λt40=>(QaS ((m:Int) - 1) (t40).A).bind λt43=>(QfP ((m:Int) - 1) l s196 t43 (i64.wrap (s8 - (1:Int)))).bind λt46=>(idx l s196).bind λt50=>(QaS ((m:Int) - 1) (t50).B).bind λt53=>(idx l s196).bind λt56=>(idx t46 (i64.wrap (s8 - (1:Int)))).bind λt62=>(idx t62 t53).bind λt65=>(opt ((decide (t65>=(1099511627776:Int)))==false) (idx t46 (i64.wrap (s8 - (1:Int)))) default).bind λt73=>(opt ((decide (t65>=(1099511627776:Int)))==false) (idx t73 t53) default).bind λt76=>(if ((decide (t65>=(1099511627776:Int)))||(decide ((i64.wrap ((t56).N+t76))>=(0:Int))))=true then (some (.inl (i64.wrap (s196+(1:Int))))) else (Qm (λ(s297:Int×Int×Int×List Int)=>((if (decide (s297.1>=(0:Int)))=true then (Qm (λ(s339:Int)=>((if (decide (s339<(l.length:Int)))=true then (idx l s339).bind λt100=>(QaS ((m:Int) - 1) (t100).B).bind λt103=>(idx l s339).bind λt107=>(QaS ((m:Int) - 1) (t107).A).bind λt110=>(opt ((t110==s297.2.2.1)==true) (idx t46 s297.1) default).bind λt116=>(opt ((t110==s297.2.2.1)==true) (idx t116 t103) default).bind λt119=>(opt (((t110==s297.2.2.1)&&(decide (t119<(1099511627776:Int))))==true) (idx l s339) default).bind λt127=>(opt (((t110==s297.2.2.1)&&(decide (t119<(1099511627776:Int))))==true) (idx t46 s297.1) default).bind λt133=>(opt (((t110==s297.2.2.1)&&(decide (t119<(1099511627776:Int))))==true) (idx t133 t103) default).bind λt136=>(if (((t110==s297.2.2.1)&&(decide (t119<(1099511627776:Int))))&&(decide ((i64.wrap ((i64.wrap (s297.2.1+(t127).N))+t136))<(0:Int))))=true then (rm (s297.2.2.2.length+[s339].length)).bind λ_=>(idx l s339).bind λt148=>(some (.inr (t103,(i64.wrap (s297.2.1+(t148).N)),(s297.2.2.2++[s339])))) else (some (.inl (i64.wrap (s339+(1:Int)))))) else (some (.inr (s297.2.2.1,s297.2.1,s297.2.2.2)))):Option ((Int)⊕((Int×Int×List Int))))) (i64.wrap (s196+(1:Int)))).bind λ(p352:(Int×Int×List Int))=>(some (.inl ((i64.wrap (s297.1 - (1:Int))),p352.2.1,p352.1,p352.2.2))) else (some (.inr s297.2.2.2))):Option ((Int×Int×Int×List Int)⊕((List Int))))) ((i64.wrap (s8 - (2:Int))),(t56).N,t53,[s196])).bind λ(p331:(List Int))=>(some (.inr (.inr ((0:Int),p331)))))
def Qww {m:Nat} {l:List QG} (hv:QdL m l) {first many:Nat} (hf:first<l.length) (h2:2<=many) (hm:many<=m):
  Qjg m l (many:Int) (first:Int)=some (if (QaX (l.map (edN m)) many first).isEmpty=true then .inl ((first+1:Nat):Int) else .inr (.inr (0,QaX (l.map (edN m)) many first))):=by
 have hm11:=hv.m11;have hlen:=hv.len;have hin:∀d∈l,(-1<=d.A/\d.A<(m:Int) - 1/\-1<=d.B/\d.B<(m:Int) - 1/\-2097152<=d.N/\d.N<=2097152)/\rowN m d.A<m/\rowN m d.B<m:=λd hd=>by have h:=Qqh hv (edN m d) (ZZ hd);have g:=hv.ok d hd;exact⟨⟨g.1,g.2.1,g.2.2.1,g.2.2.2.1,g.2.2.2.2.2⟩,h.1,h.2.1⟩
 rw[Qjf];unfold Qjg QaX;rw[QkV hf,Qrr];obtain⟨⟨a1,a2,b1,b2,n1,n2⟩,ha,hb⟩:=hin _ (Zk hf);rw[QI hf];simp only[Za];rw[QiZ a1 a2,QiZ b1 b2];simp only[Za];rw[show i64.wrap ((many:Int) - 1)=((many - 1:Nat):Int) by rw[w64 (by omega) (by omega)];omega];rw[QBZ hv hf ha (show many - 1<=m by omega)];simp only[Za];rw[show (edN m l[first]).a=rowN m l[first].A from rfl,show (edN m l[first]).b=rowN m l[first].B from rfl,show (edN m l[first]).w=l[first].N from rfl];generalize lay (rowN m l[first].A) ((l.drop (first+1)).map (edN m))=Ly;have row:∀q,q<=many - 1->idx (rowL (many - 1+1) λq=>rowL m (Ly q)) (q:Int)=some (rowL m (Ly q)):=λq hq=>by rw[QbH (by omega)]
 rw[row _ (Zx _)];simp only[Za];rw[QbH hb];simp only[Za];by_cases hL:Ly (many - 1) (rowN m l[first].B)<INF
 ·have hL':decide (Ly (many - 1) (rowN m l[first].B)>=(1099511627776:Int))=false:=by simpa using hL
  rw[hL'];simp only[BEq.rfl,Qi9,Za,Bool.false_or];rw[QbH hb];simp only[Za];have hg:Qds (Ly (many - 1)) l[first].N 0 (rowN m l[first].B)=!decide (i64.wrap (l[first].N+Ly (many - 1) (rowN m l[first].B))>=0):=by unfold Qds;rw[show l[first].N+0=l[first].N by omega,w64 (n:=l[first].N) (by omega) (by omega),show decide (Ly (many - 1) (rowN m l[first].B)<INF)=true by simpa using hL,Bool.true_and,<-decide_not];congr 1;rw[Int.not_le]
  rw[hg];by_cases hc:decide (i64.wrap (l[first].N+Ly (many - 1) (rowN m l[first].B))>=0)=true
  ·rw[hc];simp only[if_true,Bool.not_true,Bool.not_false];rw[Qw hf (by omega)]
  ·have hc':decide (i64.wrap (l[first].N+Ly (many - 1) (rowN m l[first].B))>=0)=false:=by simpa using hc
   rw[hc'];simp only[ZB,if_false,Bool.not_true,Bool.not_false,if_true];have inn:∀(k0:Nat),k0<=many - 1->∀(k i:Nat) (st:WkB),i+k=l.length->st.2.1.length<=100->
     Qm (λ(s339:Int)=>((if (decide (s339<(l.length:Int)))=true then (idx l s339).bind λt100=>(QaS ((m:Int) - 1) (t100).B).bind λt103=>(idx l s339).bind λt107=>(QaS ((m:Int) - 1) (t107).A).bind λt110=>(opt ((t110==(st.1:Int))==true) (idx (rowL (many - 1+1) λq=>rowL m (Ly q)) (k0:Int)) default).bind λt116=>(opt ((t110==(st.1:Int))==true) (idx t116 t103) default).bind λt119=>(opt (((t110==(st.1:Int))&&(decide (t119<(1099511627776:Int))))==true) (idx l s339) default).bind λt127=>(opt (((t110==(st.1:Int))&&(decide (t119<(1099511627776:Int))))==true) (idx (rowL (many - 1+1) λq=>rowL m (Ly q)) (k0:Int)) default).bind λt133=>(opt (((t110==(st.1:Int))&&(decide (t119<(1099511627776:Int))))==true) (idx t133 t103) default).bind λt136=>(if (((t110==(st.1:Int))&&(decide (t119<(1099511627776:Int))))&&(decide ((i64.wrap ((i64.wrap (st.2.2+(t127).N))+t136))<(0:Int))))=true then (rm (st.2.1.length+[s339].length)).bind λ_=>(idx l s339).bind λt148=>(some (.inr (t103,(i64.wrap (st.2.2+(t148).N)),(st.2.1++[s339])))) else (some (.inl (i64.wrap (s339+(1:Int)))))) else (some (.inr ((st.1:Int),st.2.2,st.2.1)))):Option ((Int)⊕((Int×Int×List Int))))) (i:Int)=
     some (((inS (l.map (edN m)) (Ly k0) k i st).1:Int),(inS (l.map (edN m)) (Ly k0) k i st).2.2,(inS (l.map (edN m)) (Ly k0) k i st).2.1):=by
    intro k0 hk0;rw[row k0 hk0];intro k
    induction k with
    | zero=>intro i st hi _;rw[Qac];rw[Zd (by simp;omega)];rfl
    | succ k ih=>
     intro i st hi hst;have hil:i<l.length:=by omega
     obtain⟨⟨a1,a2,b1,b2,n1,n2⟩,ha,hb⟩:=hin _ (Zk hil);rw[Qac];rw[Zc (by simpa using hil),QI hil];simp only[Za];rw[QiZ a1 a2,QiZ b1 b2];simp only[Za];unfold inS;rw[QkV hil];have ea:(((rowN m l[i].A:Nat):Int)==(st.1:Int))=((edN m l[i]).a==st.1):=by rw[ZO];simp only[edN,ZW];omega
     rw[ea];rw[show (edN m l[i]).b=rowN m l[i].B from rfl,show (edN m l[i]).w=l[i].N from rfl]
     cases hc:(edN m l[i]).a==st.1 with
     | true=>
      simp only[BEq.rfl,Qi9,Za,Bool.true_and];rw[QbH hb];simp only[Za];unfold Qds
      cases hd:decide (Ly k0 (rowN m l[i].B)<INF) with
      | true=>
       simp only[BEq.rfl,Qi9,Za,Bool.true_and];rw[QbH hb];simp only[Za];by_cases hg:decide (i64.wrap (i64.wrap (st.2.2+l[i].N)+Ly k0 (rowN m l[i].B))<0)=true
       ·rw[Zc hg,Zc hg,QaT (by simp;omega)];rfl
       ·rw[Zd hg,Zd hg];simp only;rw[Qw hil (by omega)];exact ih (i+1) st (by omega) hst
      | false=>simp only[show (false==true)=false from rfl,Qic,Za,Bool.false_and,ZB,if_false];rw[Qw hil (by omega)];exact ih (i+1) st (by omega) hst
     | false=>simp only[show (false==true)=false from rfl,Qic,Za,Bool.false_and,ZB,if_false];rw[Qw hil (by omega)];exact ih (i+1) st (by omega) hst
   have out:∀(k:Nat) (st:WkB),k<many->st.2.1.length+k<=100->
     Qm (λ(s297:Int×Int×Int×List Int)=>((if (decide (s297.1>=(0:Int)))=true then (Qm (λ(s339:Int)=>((if (decide (s339<(l.length:Int)))=true then (idx l s339).bind λt100=>(QaS ((m:Int) - 1) (t100).B).bind λt103=>(idx l s339).bind λt107=>(QaS ((m:Int) - 1) (t107).A).bind λt110=>(opt ((t110==s297.2.2.1)==true) (idx (rowL (many - 1+1) λq=>rowL m (Ly q)) s297.1) default).bind λt116=>(opt ((t110==s297.2.2.1)==true) (idx t116 t103) default).bind λt119=>(opt (((t110==s297.2.2.1)&&(decide (t119<(1099511627776:Int))))==true) (idx l s339) default).bind λt127=>(opt (((t110==s297.2.2.1)&&(decide (t119<(1099511627776:Int))))==true) (idx (rowL (many - 1+1) λq=>rowL m (Ly q)) s297.1) default).bind λt133=>(opt (((t110==s297.2.2.1)&&(decide (t119<(1099511627776:Int))))==true) (idx t133 t103) default).bind λt136=>(if (((t110==s297.2.2.1)&&(decide (t119<(1099511627776:Int))))&&(decide ((i64.wrap ((i64.wrap (s297.2.1+(t127).N))+t136))<(0:Int))))=true then (rm (s297.2.2.2.length+[s339].length)).bind λ_=>(idx l s339).bind λt148=>(some (.inr (t103,(i64.wrap (s297.2.1+(t148).N)),(s297.2.2.2++[s339])))) else (some (.inl (i64.wrap (s339+(1:Int)))))) else (some (.inr (s297.2.2.1,s297.2.1,s297.2.2.2)))):Option ((Int)⊕((Int×Int×List Int))))) (i64.wrap ((first:Int)+(1:Int)))).bind λ(p352:(Int×Int×List Int))=>(some (.inl ((i64.wrap (s297.1 - (1:Int))),p352.2.1,p352.1,p352.2.2))) else (some (.inr s297.2.2.2))):Option ((Int×Int×Int×List Int)⊕((List Int)))))
      ((k:Int) - 1,st.2.2,(st.1:Int),st.2.1)=some (outS (l.map (edN m)) Ly first k st).2.1:=by
    intro k
    induction k with
    | zero=>intro st _ _;rw[Qac];simp only;rw[Zd (by simp)];rfl
    | succ k ih=>
     intro st hk hst;have e8:=inn k (by omega) (l.length - (first+1)) (first+1) st (by omega) (by omega);have hlen:=QoW (E:=l.map (edN m)) (L:=Ly k) (l.length - (first+1)) (first+1) st;rw[<-Qw (n:=l.length) (k:=first) (by omega) (by omega)] at e8;rw[Qac];simp only;rw[show ((k+1:Nat):Int) - 1=(k:Int) by omega,Zc (by simp),e8];simp only[Za];rw[w64 (n:=(k:Int) - 1) (by omega) (by omega)];refine (ih (inS (l.map (edN m)) (Ly k) (l.length - (first+1)) (first+1) st) (by omega) (by omega)).trans ?_
     conv=>rhs;unfold outS
     rw[Zv]
   have e9:=out (many - 1) (rowN m l[first].B,[(first:Int)],l[first].N) (by omega) (by simp;omega);rw[show ((many - 1:Nat):Int) - 1=i64.wrap ((many:Int) - 2) by rw[w64 (by omega) (by omega)];omega] at e9;exact (Ya (Option.bind · _) e9).trans rfl
 ·have hL':decide (Ly (many - 1) (rowN m l[first].B)>=(1099511627776:Int))=true:=by simpa using hL
  have hg:Qds (Ly (many - 1)) l[first].N 0 (rowN m l[first].B)=false:=by unfold Qds;rw[show decide (Ly (many - 1) (rowN m l[first].B)<INF)=false by simpa using hL];rfl
  rw[hL',hg];simp only[show (true==false)=false from rfl,Qic,Za,Bool.true_or,if_true,Bool.not_false];rw[Qw hf (by omega)]

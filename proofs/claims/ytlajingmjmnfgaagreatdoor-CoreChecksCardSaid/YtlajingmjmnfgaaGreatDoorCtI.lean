/- CountsLimits. No condition. -/
import Derived.Test.YtlajingmjmnfgaaGreatDoorTyN
import Derived.Test.YtlajingmjmnfgaaGreatDoorEvalA
set_option linter.all false
open List Go.IntKind
namespace Go.Proofs.YtlajingmjmnfgaaGreatDoor
noncomputable section
open Go.Sim
def QkZ {β γ:Type} (n:Nat) (g:Nat->List β) (h:Nat->List γ) (B:Nat) (hB:∀k,k<n->(g k).length<=B/\(h k).length<=B) (a0:List β) (b0:List γ) {body:Int×List β×List γ->Option ((Int×List β×List γ)⊕(List β×List γ))}
  (hs:∀k,k<n->∀(p:List β) (q:List γ),p.length<=a0.length+k * B->q.length<=b0.length+k * B->body ((k:Int),p,q)=some (.inl (((k+1:Nat):Int),p++g k,q++ h k))) (he:∀p q,body ((n:Int),p,q)=some (.inr (p,q))):
  Ql body ((0:Int),a0,b0)=some (a0++(range n).flatMap g,b0++(range n).flatMap h):=by
 have hlen:∀m,m<=n->((range m).flatMap g).length<=m * B/\((range m).flatMap h).length<=m * B:=λm hm=>⟨Qbh m g B λk hk=>(hB k (by omega)).1,Qbh m h B λk hk=>(hB k (by omega)).2⟩;have key:=Qb9 (body:=body) n (λm=>((m:Int),a0++(range m).flatMap g,b0++(range m).flatMap h)) (a0++(range n).flatMap g,b0++(range n).flatMap h) (λk hk=>?_) ?_
 ·simpa using key
 ·have:=hlen k (by omega);rw[hs k hk _ _ (by rw[Ze];omega) (by rw[Ze];omega),Yl,ZQ,ZQ];simp
 ·rw[he]
def QwP:Str:=[32,108,101,97,115,116]
def mostT:Str:=[32,109,111,115,116]
section
variable {τ:Type} (mk:Int->Int->Int->Bool->τ)
def Qhb (i j lo hi:Int):List τ:=[mk i j lo true,mk i j hi false]
def fldL (x:Qb) (i:Nat) (q:Qg) (j:Nat):List τ:=match q.Xb[j]? with | some f=>if (f.Xi==1)=true then Qhb mk (i:Int) (QQ x f.Of) f.Lo f.Hi else [] | none=>[]
def kndL (x:Qb) (i:Nat):List τ:=match x.Xa[i]? with | some q=>Qhb mk (i:Int) (-1) q.Lo q.Hi++(range q.Xb.length).flatMap (fldL mk x i q) | none=>[]
def limL (x:Qb):List τ:=(range x.Xa.length).flatMap (kndL mk x)
end
def Qig (s:Str):List Str:=[s++QwP,s++mostT]
def fldN (q:Qg) (j:Nat):List Str:=match q.Xb[j]? with | some f=>if (f.Xi==1)=true then Qig ((q.Xj++[46])++f.Xj) else [] | none=>[]
def kndN (x:Qb) (i:Nat):List Str:=match x.Xa[i]? with | some q=>Qig q.Xj++(range q.Xb.length).flatMap (fldN q) | none=>[]
def namL (x:Qb):List Str:=(range x.Xa.length).flatMap (kndN x)
def QmA {τ:Type} (mk:Int->Int->Int->Bool->τ) (x:Qb) (i:Nat) (q:Qg) (j:Nat):(fldL mk x i q j).length<=2/\(fldN q j).length<=2:=by
 unfold fldL fldN
 cases q.Xb[j]? with
 | none=>simp
 | some f=>dsimp only;constructor<;>split<;>simp[Qhb,Qig]
def Qi9 {τ:Type} (mk:Int->Int->Int->Bool->τ) {x:Qb} (hv:Qfh x) (i:Nat):(kndL mk x i).length<=22/\(kndN x i).length<=22:=by
 unfold kndL kndN
 cases hq:x.Xa[i]? with
 | none=>simp
 | some q=>have hf:=(Qb4 (hv.kind q (Zr hq))).2.1;have h1:=Qbh q.Xb.length (fldL mk x i q) 2 λj _=>(QmA mk x i q j).1;have h2:=Qbh q.Xb.length (fldN q) 2 λj _=>(QmA mk x i q j).2;simp only[Ze,Qhb,Qig,Zj,Zl];omega
def Qhm {x:Qb} {p:Qz} (h:p∈Q0 x):p.Code≠0:=by
 have hp:∀{k j r e:Int},p∈prob k j r e->p.Code≠0:=λ{k j r e} h=>by
  unfold prob at h;split at h
  ·cases h
  ·rw[Zh.1 h];assumption
 unfold Q0 at h;split at h
 ·simp only[Zs] at h;rcases h with (h | h) | h
  ·obtain⟨i,_,h⟩:=ZW.1 h;unfold QfC at h;split at h
   ·exact hp h
   ·cases h
  ·obtain⟨i,_,h⟩:=ZW.1 h;unfold QeJ at h;split at h
   ·rcases Zs.1 h with h | h
    ·exact hp h
    ·obtain⟨j,_,h⟩:=ZW.1 h;unfold QfV at h;split at h
     ·exact hp h
     ·cases h
   ·cases h
  ·obtain⟨i,_,h⟩:=ZW.1 h;unfold Qid at h;split at h
   ·exact hp h
   ·cases h
 ·rw[Zh.1 h];assumption
def Qan {x:Qb} (h:Q0 x=[]):Qfh x:=by
 unfold Q0 at h;by_cases hv:Qep x=0
 ·unfold Qep at hv;by_cases hs:Qeo x=true
  ·exact Qiw hs
  ·rw[Zd hs] at hv;cases hv
 ·rw[Zd hv] at h;cases h
def QjL {q:Qg} (h:kindS q=true):q.Xj.length<=12:=by simp only[kindS,Zf] at h;exact Qa5 h.1.1.1
def QiU {f:Qc} (h:fieldS f=true):f.Xj.length<=12:=by simp only[fieldS,Zf] at h;exact Qa5 h.1.1
def QcL {n:Nat} (h:n<=1000000):cat n=some ():=by unfold cat;rw[Zc (by omega)]
def add13 {s:Str} {a b lo hi:Int} {c0:List Qi} {c1:List Str} (hs:s.length<=1000) (h0:c0.length<=1000000) (h1:c1.length<=1000000):
  Qc5 s a b lo hi c0 c1=some (c0++Qhb Qi.mk a b lo hi,c1++Qig s):=by
 unfold Qc5;rw[QaW (by simp;omega),QcL (by simp;omega),QcL (by simp;omega),QaW (by simp;omega)];rfl
def QyU {x:Qb} (h:QcZ x):QfR x=some (match Q0 x with | []=>0 | p::_=>p.Code):=by
 unfold QfR;rw[Qrp h];simp only[Za]
 cases Q0 x with
 | nil=>rfl
 | cons p l=>rw[Zc (by simp)];rfl
def limR {τ:Type} (mk:Int->Int->Int->Bool->τ) (x:Qb):List τ×List Str×Int:=match Q0 x with | []=>(limL mk x,namL x,0) | p::_=>([],[],p.Code)
def QpI {x:Qb} (h:QcZ x):Qd3 x=some (limR Qi.mk x):=by
 unfold Qd3 limR;rw[QyU h];simp only[Za]
 cases hc:Q0 x with
 | cons p l=>have:=Qhm (x:=x) (p:=p) (by rw[hc];exact Zn ..);dsimp only;rw[Zc (by simpa using this)]
 | nil=>
  have hv:=Qan hc;have hk:=hv.kinds;dsimp only;rw[Zd (by simp)];refine (ZH (Option.bind · _) (QkZ x.Xa.length (kndN x) (kndL Qi.mk x) 22 (λi _=>⟨(Qi9 Qi.mk hv i).2,(Qi9 Qi.mk hv i).1⟩) [] [] (λi hi p q hp hq=>?_) (λp q=>by rw[Zd (by simp)]))).trans ?_
  ·simp only[Zl,Nat.zero_add] at hp hq;have hib:i * 22<=132:=by omega
   rw[Zc (by simpa using hi),QG hi];have hK:=hv.kind _ (Zm hi);have hf10:=(Qb4 hK).2.1;have hnm:=QjL hK;simp only[Za];rw[add13 (by omega) (by omega) (by omega)];simp only[Za];rw[QkZ x.Xa[i].Xb.length (fldL Qi.mk x i x.Xa[i]) (fldN x.Xa[i]) 2 (λj _=>QmA _ _ _ _ _) _ _ (λj hj p' q' hp' hq'=>?_) (λp' q'=>by rw[Zd (by simp)])]
   ·simp only[Za];have e1:kndL Qi.mk x i=Qhb Qi.mk (i:Int) (-1) x.Xa[i].Lo x.Xa[i].Hi++(range x.Xa[i].Xb.length).flatMap (fldL Qi.mk x i x.Xa[i]):=by unfold kndL;rw[Zb hi]
    have e2:kndN x i=Qig x.Xa[i].Xj++(range x.Xa[i].Xb.length).flatMap (fldN x.Xa[i]):=by unfold kndN;rw[Zb hi]
    rw[e1,e2,Qw hi (by omega),ZF,ZF]
   ·simp only[Ze,Qhb,Qig,Zj,Zl] at hp' hq';have hfn:=QiU ((Qb4 hK).2.2 _ (Zm hj));rw[Zc (by simpa using hj),QG hj];simp only[Za];have e1:fldL Qi.mk x i x.Xa[i] j=if (x.Xa[i].Xb[j].Xi==1)=true then Qhb Qi.mk (i:Int) (QQ x x.Xa[i].Xb[j].Of) x.Xa[i].Xb[j].Lo x.Xa[i].Xb[j].Hi else []:=by unfold fldL;rw[Zb hj]
    have e2:fldN x.Xa[i] j=if (x.Xa[i].Xb[j].Xi==1)=true then Qig ((x.Xa[i].Xj++[46])++x.Xa[i].Xb[j].Xj) else []:=by unfold fldN;rw[Zb hj]
    rw[e1,e2,Qw hj (by omega)]
    cases (x.Xa[i].Xb[j].Xi==1) with
    | false=>simp
    | true=>rw[Zc rfl,Zc rfl,Zc rfl,QcL (by simp;omega),QcL (by simp;omega),Qc9 (by omega)];simp only[Za];rw[add13 (by simp;omega) (by omega) (by omega)];rfl
  ·rfl
def Qk0 {x:Qb} (h:QcZ x):QdH x=some (limR QB.mk x):=by
 unfold QdH limR;rw[QpH h];simp only[Za]
 cases hc:Q0 x with
 | cons p l=>rw[Zc (by simp)];rfl
 | nil=>
  have hv:=Qan hc;have hk:=hv.kinds;rw[Zd (by simp)];refine (ZH (Option.bind · _) (QkZ x.Xa.length (kndN x) (kndL QB.mk x) 22 (λi _=>⟨(Qi9 QB.mk hv i).2,(Qi9 QB.mk hv i).1⟩) [] [] (λi hi p q hp hq=>?_) (λp q=>by rw[Zd (by simp)]))).trans ?_
  ·simp only[Zl,Nat.zero_add] at hp hq;have hib:i * 22<=132:=by omega
   rw[Zc (by simpa using hi),QG hi];have hK:=hv.kind _ (Zm hi);have hf10:=(Qb4 hK).2.1;have hnm:=QjL hK;simp only[Za];rw[QaW (by simp;omega),QcL (by simp;omega),QcL (by simp;omega),QaW (by simp;omega)];simp only[Za];rw[QkZ x.Xa[i].Xb.length (fldL QB.mk x i x.Xa[i]) (fldN x.Xa[i]) 2 (λj _=>QmA _ _ _ _ _) _ _ (λj hj p' q' hp' hq'=>?_) (λp' q'=>by rw[Zd (by simp)])]
   ·simp only[Za];have e1:kndL QB.mk x i=Qhb QB.mk (i:Int) (-1) x.Xa[i].Lo x.Xa[i].Hi++(range x.Xa[i].Xb.length).flatMap (fldL QB.mk x i x.Xa[i]):=by unfold kndL;rw[Zb hi]
    have e2:kndN x i=Qig x.Xa[i].Xj++(range x.Xa[i].Xb.length).flatMap (fldN x.Xa[i]):=by unfold kndN;rw[Zb hi]
    rw[e1,e2,Qw hi (by omega),ZF,ZF];rfl
   ·simp only[Ze,Zj,Zl] at hp' hq';have hfn:=QiU ((Qb4 hK).2.2 _ (Zm hj));rw[Zc (by simpa using hj),QG hj];simp only[Za];have e1:fldL QB.mk x i x.Xa[i] j=if (x.Xa[i].Xb[j].Xi==1)=true then Qhb QB.mk (i:Int) (QQ x x.Xa[i].Xb[j].Of) x.Xa[i].Xb[j].Lo x.Xa[i].Xb[j].Hi else []:=by unfold fldL;rw[Zb hj]
    have e2:fldN x.Xa[i] j=if (x.Xa[i].Xb[j].Xi==1)=true then Qig ((x.Xa[i].Xj++[46])++x.Xa[i].Xb[j].Xj) else []:=by unfold fldN;rw[Zb hj]
    rw[e1,e2,Qw hj (by omega)]
    cases (x.Xa[i].Xb[j].Xi==1) with
    | false=>simp
    | true=>rw[Zc rfl,Zc rfl,Zc rfl,QdN (by omega)];simp only[Za];rw[QaW (by simp;omega),QcL (by simp;omega),QcL (by simp;omega),QcL (by simp;omega),QcL (by simp;omega),QaW (by simp;omega)];rfl
  ·rfl
def Qo2 (l:Qi):QB:=⟨l.A,l.B,l.Mul,l.Xh⟩
def Qtp (x:Qb):(limL Qi.mk x).map Qo2=limL QB.mk x:=by
 unfold limL;rw[map_flatMap];congr 1
 funext i
 unfold kndL
 cases x.Xa[i]? with
 | none=>rfl
 | some q=>
  dsimp only;rw[ZM,map_flatMap];congr 1;congr 1
  funext j
  unfold fldL
  cases q.Xb[j]? with
  | none=>rfl
  | some f=>dsimp only;split<;>rfl
def Qo3 {a:List Str} (ha:a.length<=1000000):Qem a a=some true:=by
 unfold Qem;rw[Zd (by simp),QcS a (λ_=>true) false (λk hk=>?_) (Zd (by simp))]
 ·rw[Zc (by simp)];rfl
 ·rw[Zc rfl,Zc (by simpa using hk),QG hk];simp only[Za];rw[Zd (by simp),Qw hk (by omega)]
def Qk1 {k j r e:Int} (h:prob k j r e=[]):e=0:=by
 unfold prob at h;split at h
 ·assumption
 ·cases h
def clean {x:Qb} (hc:Q0 x=[]) {k j:Int} {q:Qg} {f:Qc} (hq:idx x.Xa k=some q) (hf:field? x k j=some f):QgP x q k j f=0:=by
 obtain⟨q',hk,hj,hq',hqf,_,hkl,hjl⟩:=QbN hf;rw[hq] at hq';cases hq';obtain⟨i,rfl⟩:=Zx hk;obtain⟨n,rfl⟩:=Zx hj;rw[QbS] at hq hqf;unfold Q0 at hc;split at hc
 ·simp only[append_eq_nil_iff] at hc;have h1:=hc.1.2;unfold Qfi at h1;rw[flatMap_eq_nil_iff] at h1;have h2:=h1 i (ZP.2 (by omega));unfold QeJ at h2;rw[hq] at h2;dsimp only at h2;rw[append_eq_nil_iff] at h2;have h3:=h2.2;unfold Qi8 at h3;rw[flatMap_eq_nil_iff] at h3;have h4:=h3 n (ZP.2 (by omega));unfold QfV at h4;rw[hqf] at h4;have h5:=Qk1 h4;unfold Qiy at h5;split at h5
  ·cases h5
  ·exact h5
 ·cases hc
def Qcz {a:Bool} {c:Int} {r:List Qab} (h:QaR (⟨a,c⟩::r)=0) (hc:c≠0):a=false/\QaR r=0:=by
 unfold QaR at h
 cases a with
 | true=>exact (hc h).elim
 | false=>exact⟨rfl,h⟩
def Qrs {x:Qb} {q:Qg} {k j:Int} {f:Qc} (h:QgP x q k j f=0) (hk:f.Xi=1\/f.Xi=7\/f.Xi=8):0<=upIx x k j:=by
 unfold QgP at h;rcases hk with hk | hk | hk
 ·rw[Zd (by omega),Zc hk] at h;have:=(Qcz h (by decide)).1;simpa using this
 ·rw[Zd (by omega),Zd (by omega),Zd (by omega),Zd (by omega),Zd (by omega),Zc hk] at h;have:=(Qcz h (by decide)).1;simpa using this
 ·rw[Zd (by omega),Zd (by omega),Zd (by omega),Zd (by omega),Zd (by omega),Zd (by omega),Zc hk] at h;have:=(Qcz h (by decide)).1;simpa using this
def lowT:Str:=[32,108,111,119]
def Qqs:Str:=[32,104,105,103,104]
def Qqt:Str:=[114,117,108,101,58]
abbrev Dt:=Int×Str×QE
def ofIx (q:Qg) (f:Qc):Int:=if ((f.Xi==4)&&(f.Of !=([]:Str)))=true then Q2 q f.Of else -1
def dotN (q:Qg) (f:Qc):Str:=(q.Xj++[46])++f.Xj
def fldT (i:Nat) (q:Qg) (j:Nat):List Dt:=match q.Xb[j]? with
 | some f=>if ((f.Xi !=2)&&(f.Xi !=4))=true then [] else [((i:Int),dotN q f++lowT,QE.mk (ofIx q f) (j:Int) (i64.wrap (0 - f.Lo))),((i:Int),dotN q f++Qqs,QE.mk (j:Int) (ofIx q f) f.Hi)]
 | none=>[]
def kndT (x:Qb) (i:Nat):List Dt:=match x.Xa[i]? with | some q=>(range q.Xb.length).flatMap (fldT i q) | none=>[]
def rulT (x:Qb) (i:Nat):List Dt:=match x.Xc[i]? with
 | some r=>match idx x.Xa (QQ x r.Xi) with | some q=>[(QQ x r.Xi,Qqt++r.Xj,QE.mk (Q2 q r.A) (Q2 q r.B) r.N)] | none=>[]
 | none=>[]
def Qao (x:Qb):List Dt:=(range x.Xa.length).flatMap (kndT x)++(range x.Xc.length).flatMap (rulT x)
def mkD (t:Dt):QU:=⟨t.1,t.2.1,t.2.2⟩
def mkN (t:Dt):QI:=⟨t.1,t.2.1,t.2.2⟩
def Qnf (i:Nat) (q:Qg) (j:Nat):(fldT i q j).length<=2:=by
 unfold fldT
 cases q.Xb[j]? with
 | none=>simp
 | some f=>dsimp only;split<;>simp
def Qh1 {x:Qb} (hv:Qfh x) (i:Nat):(kndT x i).length<=20:=by
 unfold kndT
 cases hq:x.Xa[i]? with
 | none=>simp
 | some q=>have hf:=(Qb4 (hv.kind q (Zr hq))).2.1;have h1:=Qbh q.Xb.length (fldT i q) 2 λj _=>Qnf i q j;dsimp only;omega
def Qk2 (x:Qb) (i:Nat):(rulT x i).length<=1:=by
 unfold rulT
 cases x.Xc[i]? with
 | none=>simp
 | some r=>dsimp only;cases idx x.Xa (QQ x r.Xi) with | none=>simp | some q=>simp
def Qfr {x:Qb} (hv:Qfh x):(Qao x).length<=136:=by unfold Qao;rw[Ze];have h1:=Qbh x.Xa.length (kndT x) 20 λj _=>Qh1 hv j;have h2:=Qbh x.Xc.length (rulT x) 1 λj _=>Qk2 x j;have:=hv.kinds;have:=hv.rules;omega
def QpJ {r:Qs} (h:QbX r=true):r.Xj.length<=12:=by simp only[QbX,Zf] at h;exact Qa5 h.1.1.1.1.1
def Ql2 {x:Qb} (hc:Q0 x=[]) {i:Nat} {r:Qs} (hr:x.Xc[i]?=some r):QhG x i r=0:=by
 unfold Q0 at hc;split at hc
 ·have h:=(append_eq_nil_iff.1 hc).2;have hi:i<x.Xc.length:=(Zg.1 hr).1;have:=flatMap_eq_nil_iff.1 h i (ZP.2 hi);unfold Qid at this;rw[hr] at this;exact Qk1 this
 ·cases hc
def QjM {x:Qb} (hc:Q0 x=[]) {i:Nat} {r:Qs} (hr:x.Xc[i]?=some r):∃q,0<=QQ x r.Xi/\idx x.Xa (QQ x r.Xi)=some q/\q∈x.Xa:=by have h:=Ql2 hc hr;unfold QhG at h;have h2:=(Qcz (Qcz h (by decide)).2 (by decide)).1;simp only[Bool.or_eq_false_iff,ZK] at h2;have hr:=Qc8 x.Xa λk=>k.Xj==r.Xi;obtain⟨q,hq,hm⟩:=QcC (l:=x.Xa) (i:=QQ x r.Xi) (by omega) hr.2;exact⟨q,by omega,hq,hm⟩
def flat_map' {α β:Type} (g:α->β) (n:Nat) (F:Nat->List α):(range n).flatMap (λi=>(F i).map g)=((range n).flatMap F).map g:=by rw[map_flatMap]
def Qrt {x:Qb} (hs:QcZ x) (hc:Q0 x=[]):QfZ x=some ((Qao x).map mkD):=by
 have hv:=Qan hc;have hk6:=hv.kinds;have hr16:=hv.rules;unfold QfZ;have hall:((range x.Xa.length).flatMap (kndT x)).length<=120:=by have h1:=Qbh x.Xa.length (kndT x) 20 λj _=>Qh1 hv j;omega
 refine (ZH (Option.bind · _) (Qcj x.Xa.length (λi=>(kndT x i).map mkD) 20 (λi _=>by rw[Zz];exact Qh1 hv i) [] (λi hi acc hacc=>?_) (λacc=>by rw[Zd (by simp)]))).trans ?_
 ·simp only[Zl,Nat.zero_add] at hacc;rw[Zc (by simpa using hi),QG hi];have hK:=hv.kind _ (Zm hi);have hf10:=(Qb4 hK).2.1;have hnm:=QjL hK;simp only[Za];rw[Qcj x.Xa[i].Xb.length (λj=>(fldT i x.Xa[i] j).map mkD) 2 (λj _=>by rw[Zz];exact Qnf _ _ _) acc (λj hj p hp=>?_) (λp=>by rw[Zd (by simp)])]
  ·simp only[Za];have e:kndT x i=(range x.Xa[i].Xb.length).flatMap (fldT i x.Xa[i]):=by unfold kndT;rw[Zb hi]
   rw[e,Qw hi (by omega),flat_map']
  ·have hfn:=QiU ((Qb4 hK).2.2 _ (Zm hj));rw[Zc (by simpa using hj),QG hj];simp only[Za];have e:fldT i x.Xa[i] j=if ((x.Xa[i].Xb[j].Xi !=2)&&(x.Xa[i].Xb[j].Xi !=4))=true then [] else [((i:Int),dotN x.Xa[i] x.Xa[i].Xb[j]++lowT,QE.mk (ofIx x.Xa[i] x.Xa[i].Xb[j]) (j:Int) (i64.wrap (0 - x.Xa[i].Xb[j].Lo))),((i:Int),dotN x.Xa[i] x.Xa[i].Xb[j]++Qqs,QE.mk (j:Int) (ofIx x.Xa[i] x.Xa[i].Xb[j]) x.Xa[i].Xb[j].Hi)]:=by
    unfold fldT;rw[Zb hj]
   rw[e,Qw hj (by omega)]
   cases ((x.Xa[i].Xb[j].Xi !=2)&&(x.Xa[i].Xb[j].Xi !=4)) with
   | true=>rw[Zc rfl,Zc rfl];simp
   | false=>
    rw[Zd (show ¬(false=true) by decide),Zd (show ¬(false=true) by decide)];have ho:(if ((x.Xa[i].Xb[j].Xi==(4:Int))&&(x.Xa[i].Xb[j].Of !=([]:Str)))=true then (Qd0 x.Xa[i] x.Xa[i].Xb[j].Of).bind λt49=>some t49 else some (-1:Int))=some (ofIx x.Xa[i] x.Xa[i].Xb[j]):=by
     unfold ofIx;split
     ·unfold Qd0;rw[Qcq (by omega)];rfl
     ·rfl
    rw[ho];simp only[Za];rw[QcL (by simp;omega),QcL (by simp;omega),QcL (by simp;omega),QcL (by simp;omega),QaW (by simp;omega)];rfl
 ·simp only[Za,Yf];refine (ZH (Option.bind · _) (Qcj x.Xc.length (λi=>(rulT x i).map mkD) 1 (λi _=>by rw[Zz];exact Qk2 x i) _ (λi hi acc hacc=>?_) (λacc=>by rw[Zd (by simp)]))).trans ?_
  ·rw[flat_map',Zz] at hacc;obtain⟨q,hq0,hq,hm⟩:=QjM hc (Zb hi);have hrn:=QpJ (hv.rule _ (Zm hi));have hK:=hv.kind _ hm;have hf10:=(Qb4 hK).2.1;rw[Zc (by simpa using hi),QG hi];simp only[Za];rw[Qc9 (by omega)];simp only[Za];rw[hq];simp only[Za];unfold Qd0;rw[QcL (by simp;omega),Qcq (by omega),Qcq (by omega)];simp only[Za];rw[QaW (by simp;omega),Qw hi (by omega)];have e:rulT x i=[(QQ x x.Xc[i].Xi,Qqt++x.Xc[i].Xj,QE.mk (Q2 q x.Xc[i].A) (Q2 q x.Xc[i].B) x.Xc[i].N)]:=by unfold rulT;rw[Zb hi];dsimp only;rw[hq]
   rw[e];rfl
  ·simp only[Za];rw[flat_map',flat_map',<-ZM];rfl
def QpK {x:Qb} (hs:QcZ x) (hc:Q0 x=[]):Qe7 x=some ((Qao x).map mkN):=by
 have hv:=Qan hc;have hk6:=hv.kinds;have hr16:=hv.rules;unfold Qe7;have hall:((range x.Xa.length).flatMap (kndT x)).length<=120:=by have h1:=Qbh x.Xa.length (kndT x) 20 λj _=>Qh1 hv j;omega
 refine (ZH (Option.bind · _) (Qcj x.Xa.length (λi=>(kndT x i).map mkN) 20 (λi _=>by rw[Zz];exact Qh1 hv i) [] (λi hi acc hacc=>?_) (λacc=>by rw[Zd (by simp)]))).trans ?_
 ·simp only[Zl,Nat.zero_add] at hacc;rw[Zc (by simpa using hi),QG hi];have hK:=hv.kind _ (Zm hi);have hf10:=(Qb4 hK).2.1;have hnm:=QjL hK;simp only[Za];rw[Qcj x.Xa[i].Xb.length (λj=>(fldT i x.Xa[i] j).map mkN) 2 (λj _=>by rw[Zz];exact Qnf _ _ _) acc (λj hj p hp=>?_) (λp=>by rw[Zd (by simp)])]
  ·simp only[Za];have e:kndT x i=(range x.Xa[i].Xb.length).flatMap (fldT i x.Xa[i]):=by unfold kndT;rw[Zb hi]
   rw[e,Qw hi (by omega),flat_map']
  ·have hfn:=QiU ((Qb4 hK).2.2 _ (Zm hj));rw[Zc (by simpa using hj),QG hj];simp only[Za];have e:fldT i x.Xa[i] j=if ((x.Xa[i].Xb[j].Xi !=2)&&(x.Xa[i].Xb[j].Xi !=4))=true then [] else [((i:Int),dotN x.Xa[i] x.Xa[i].Xb[j]++lowT,QE.mk (ofIx x.Xa[i] x.Xa[i].Xb[j]) (j:Int) (i64.wrap (0 - x.Xa[i].Xb[j].Lo))),((i:Int),dotN x.Xa[i] x.Xa[i].Xb[j]++Qqs,QE.mk (j:Int) (ofIx x.Xa[i] x.Xa[i].Xb[j]) x.Xa[i].Xb[j].Hi)]:=by
    unfold fldT;rw[Zb hj]
   rw[e,Qw hj (by omega)]
   cases ((x.Xa[i].Xb[j].Xi !=2)&&(x.Xa[i].Xb[j].Xi !=4)) with
   | true=>rw[Zc rfl,Zc rfl];simp
   | false=>
    rw[Zd (show ¬(false=true) by decide),Zd (show ¬(false=true) by decide)];have ho:(if ((x.Xa[i].Xb[j].Xi==(4:Int))&&(x.Xa[i].Xb[j].Of !=([]:Str)))=true then (Qbg x.Xa[i] x.Xa[i].Xb[j].Of).bind λt57=>some t57 else some (-1:Int))=some (ofIx x.Xa[i] x.Xa[i].Xb[j]):=by
     unfold ofIx;split
     ·rw[QcK (by omega)];rfl
     ·rfl
    rw[ho];simp only[Za];rw[QcL (by simp;omega),QcL (by simp;omega),QcL (by simp;omega),QaW (by simp;omega),QcL (by simp;omega),QaW (by simp;omega)];simp only[Za];rw[ZF p];rfl
 ·simp only[Za,Yf];refine (ZH (Option.bind · _) (Qcj x.Xc.length (λi=>(rulT x i).map mkN) 1 (λi _=>by rw[Zz];exact Qk2 x i) _ (λi hi acc hacc=>?_) (λacc=>by rw[Zd (by simp)]))).trans ?_
  ·rw[flat_map',Zz] at hacc;obtain⟨q,hq0,hq,hm⟩:=QjM hc (Zb hi);have hrn:=QpJ (hv.rule _ (Zm hi));have hK:=hv.kind _ hm;have hf10:=(Qb4 hK).2.1;rw[Zc (by simpa using hi),QG hi];simp only[Za];rw[QdN (by omega)];simp only[Za];rw[hq];simp only[Za];rw[QcK (by omega),QcK (by omega)];simp only[Za];rw[QcL (by simp;omega),QaW (by simp;omega),Qw hi (by omega)];have e:rulT x i=[(QQ x x.Xc[i].Xi,Qqt++x.Xc[i].Xj,QE.mk (Q2 q x.Xc[i].A) (Q2 q x.Xc[i].B) x.Xc[i].N)]:=by unfold rulT;rw[Zb hi];dsimp only;rw[hq]
   rw[e];rfl
  ·simp only[Za];rw[flat_map',flat_map',<-ZM];rfl
def QaA (x:Qb):List Str:=namL x++(Qao x).map λt=>t.2.1
def QhH (x:Qb):List Str×Int:=match Q0 x with | []=>(QaA x,0) | p::_=>([],p.Code)
def Qjt {x:Qb} (hv:Qfh x):(namL x).length<=132:=by unfold namL;have h1:=Qbh x.Xa.length (kndN x) 22 λj _=>(Qi9 Qi.mk hv j).2;have:=hv.kinds;omega
def QpL {α:Type} (l:List α) (g:α->Str) (a0:List Str) (h0:a0.length<=1000) (hl:l.length<=1000) {body:Int×List Str->Option ((Int×List Str)⊕List Str)}
  (hs:∀k (h:k<l.length) (acc:List Str),acc.length<=2000->body ((k:Int),acc)=some (.inl (((k+1:Nat):Int),acc++[g l[k]]))) (he:∀acc,body ((l.length:Int),acc)=some (.inr acc)):Ql body ((0:Int),a0)=some (a0++l.map g):=by
 have h:=Qb9 (body:=body) l.length (λn=>((n:Int),a0++(l.take n).map g)) (a0++l.map g) (λk hk=>?_) ?_
 ·simpa using h
 ·rw[hs k hk _ (by simp;omega),<-Qlh g l hk,ZF]
 ·rw[he];simp
def Quq {x:Qb} (h:QcZ x):QfQ x=some (match Q0 x with | []=>0 | p::_=>p.Code):=by
 unfold QfQ;rw[Qrp h];simp only[Za]
 cases Q0 x with
 | nil=>rfl
 | cons p l=>rw[Zc (by simp)];rfl
def Qsu {x:Qb} (h:QcZ x):Qe6 x=some (match Q0 x with | []=>0 | p::_=>p.Code):=by
 unfold Qe6;rw[QpH h];simp only[Za]
 cases Q0 x with
 | nil=>rfl
 | cons p l=>rw[Yi,Zc (by simp)];rfl
def Qru {x:Qb} (h:QcZ x):Qf0 x=some (QhH x):=by
 unfold Qf0 QhH;rw[Quq h,QpI h];unfold limR
 cases hc:Q0 x with
 | cons p l=>have:=Qhm (x:=x) (p:=p) (by rw[hc];exact Zn ..);dsimp only[Option.bind_some];rw[Zc (by simpa using this)]
 | nil=>
  have hv:=Qan hc;dsimp only[Option.bind_some];rw[Zd (by simp),Qrt h hc];simp only[Za];have h1:=Qjt hv;have h2:=Qfr hv;rw[QpL ((Qao x).map mkD) (λt=>t.name) (namL x) (by omega) (by rw[Zz];omega) (λk hk acc ha=>?_) (λacc=>by rw[Zd (by simp)])]
  ·simp only[Za,Yw];rfl
  ·rw[Zc (by simpa using hk),QG hk];simp only[Za];rw[QaW (by simp;omega),Qw hk (by rw[Zz];omega)];rfl
def QpM {x:Qb} (h:QcZ x):Qe8 x=some (QhH x):=by
 unfold Qe8 QhH;rw[Qsu h,Qk0 h];unfold limR
 cases hc:Q0 x with
 | cons p l=>have:=Qhm (x:=x) (p:=p) (by rw[hc];exact Zn ..);dsimp only[Option.bind_some];rw[Zc (by simpa using this)]
 | nil=>
  have hv:=Qan hc;dsimp only[Option.bind_some];rw[Zd (by simp),QpK h hc];simp only[Za];have h1:=Qjt hv;have h2:=Qfr hv;rw[QpL ((Qao x).map mkN) (λt=>t.Xj) (namL x) (by omega) (by rw[Zz];omega) (λk hk acc ha=>?_) (λacc=>by rw[Zd (by simp)])]
  ·simp only[Za,Yw];rfl
  ·rw[Zc (by simpa using hk),QG hk];simp only[Za];rw[QaW (by simp;omega),Qw hk (by rw[Zz];omega)];rfl
def refF (x:Qb) (i:Nat) (q:Qg) (j:Nat):List QO:=match q.Xb[j]? with | some f=>if (f.Xi==1)=true then [QO.mk (i:Int) (upIx x (i:Int) (j:Int))] else [] | none=>[]
def refK (x:Qb) (i:Nat):List QO:=match x.Xa[i]? with | some q=>(range q.Xb.length).flatMap (refF x i q) | none=>[]
def QfD (x:Qb):List QO:=(range x.Xa.length).flatMap (refK x)
def Qrv (x:Qb) (i:Nat) (q:Qg) (j:Nat):(refF x i q j).length<=1:=by
 unfold refF
 cases q.Xb[j]? with
 | none=>simp
 | some f=>dsimp only;split<;>simp
def Qrw {x:Qb} (hv:Qfh x) (i:Nat):(refK x i).length<=10:=by
 unfold refK
 cases hq:x.Xa[i]? with
 | none=>simp
 | some q=>have hf:=(Qb4 (hv.kind q (Zr hq))).2.1;have h1:=Qbh q.Xb.length (refF x i q) 1 λj _=>Qrv x i q j;dsimp only;omega
def QwQ {x:Qb} (hv:Qfh x):(QfD x).length<=60:=by unfold QfD;have h1:=Qbh x.Xa.length (refK x) 10 λj _=>Qrw hv j;have:=hv.kinds;omega
def Qbq (x:Qb):Qa6:=⟨x,limL Qi.mk x,(Qao x).map mkD,QfD x⟩
def Qrx {x:Qb} (h:QcZ x) (hc:Q0 x=[]):Qf1 x=some (Qbq x):=by
 have hv:=Qan hc;have hk6:=hv.kinds;have hfew:Few x:=h.few;unfold Qf1;rw[QpI h,Qrt h hc];unfold limR;rw[hc];simp only[Za];refine (ZH (Option.bind · _) (Qcj x.Xa.length (refK x) 10 (λi _=>Qrw hv i) [] (λi hi acc hacc=>?_) (λacc=>by rw[Zd (by simp)]))).trans ?_
 ·simp only[Zl,Nat.zero_add] at hacc;rw[Zc (by simpa using hi),QG hi];have hf10:=(Qb4 (hv.kind _ (Zm hi))).2.1;simp only[Za];rw[Qcj x.Xa[i].Xb.length (refF x i x.Xa[i]) 1 (λj _=>Qrv _ _ _ _) acc (λj hj p hp=>?_) (λp=>by rw[Zd (by simp)])]
  ·simp only[Za];have e:refK x i=(range x.Xa[i].Xb.length).flatMap (refF x i x.Xa[i]):=by unfold refK;rw[Zb hi]
   rw[e,Qw hi (by omega)]
  ·rw[Zc (by simpa using hj),QG hj];simp only[Za];have e:refF x i x.Xa[i] j=if (x.Xa[i].Xb[j].Xi==1)=true then [QO.mk (i:Int) (upIx x (i:Int) (j:Int))] else []:=by unfold refF;rw[Zb hj]
   rw[e,Qw hj (by omega)]
   cases (x.Xa[i].Xb[j].Xi==1) with
   | false=>simp
   | true=>rw[Zc rfl,Zc rfl,QhF hfew];simp only[Za];rw[QaW (by simp;omega)];rfl
 ·rfl
structure CSol (n:Nat) (P:Qi->Prop) (R:Int->Int->Prop) (E:Int->Prop) (v:List Int):Prop where
 len:v.length=n
 num:∀z∈v,0<=z/\z<=65536
 keep:∀y,P y->Qn7 y v=true
 ref:∀a b,R a b->0<nth v a->0<nth v b
 emp:∀k:Int,0<=k->k<n->E k->nth v k=0
def CSat (n:Nat) (P:Qi->Prop) (R:Int->Int->Prop) (E:Int->Prop):Prop:=∃v,CSol n P R E v
def Qja {v:List Int} {z:Int} (h:z∈v):∃i:Int,0<=i/\i<v.length/\nth v i=z:=by obtain⟨k,hk,rfl⟩:=Ye h;exact⟨(k:Int),by omega,by omega,Qmw hk⟩
def NLe (v x:List Int):Prop:=v.length=x.length/\∀i:Int,0<=i->i<v.length->nth v i<=nth x i
def NLe.refl (v:List Int):NLe v v:=⟨rfl,λ_ _ _=>ZO _⟩
def NLe.trans {u v w:List Int} (h:NLe u v) (k:NLe v w):NLe u w:=⟨h.1.trans k.1,λi h0 h1=>Int.le_trans (h.2 i h0 h1) (k.2 i h0 (by have:=h.1;omega))⟩
def QCx {v w:List Int} (hl:v.length=w.length) (h:∀i:Int,0<=i->i<v.length->nth v i=nth w i):v=w:=by
 refine ext_getElem hl λk h1 h2=>?_;have:=h (k:Int) (by omega) (by omega)
 rwa [Qmw h1,Qmw h2] at this
def NLe.anti {v w:List Int} (h:NLe v w) (k:NLe w v):v=w:=QCx h.1 λi h0 h1=>Int.le_antisymm (h.2 i h0 h1) (k.2 i h0 (by have:=h.1;omega))
def QwR:∀{v w:List Int},NLe v w->v≠w->v.sum<w.sum:=by
 have le:∀{v w:List Int},NLe v w->v.sum<=w.sum:=by
  intro v
  induction v with
  | nil=>intro w h;have:=h.1;cases w with | nil=>exact ZO _ | cons _ _=>cases this
  | cons a v ih=>
   intro w h
   cases w with
   | nil=>cases h.1
   | cons b w=>have h0:=h.2 0 (by omega) (by simp);have h1:NLe v w:=⟨by simpa using h.1,λi i0 i1=>by have:=h.2 (i+1) (by omega) (by simp;omega);obtain⟨k,rfl⟩:=Zx i0;simpa[nth,show ((k:Int)+1).toNat=k+1 by omega] using this⟩;have:=ih h1;simp only[nth,Int.toNat_zero,getD_cons_zero] at h0;simp only[sum_cons];omega
 intro v
 induction v with
 | nil=>intro w h hne;have:=h.1;cases w with | nil=>exact absurd rfl hne | cons _ _=>cases this
 | cons a v ih=>
  intro w h hne
  cases w with
  | nil=>cases h.1
  | cons b w=>
   have h0:=h.2 0 (by omega) (by simp);have h1:NLe v w:=⟨by simpa using h.1,λi i0 i1=>by have:=h.2 (i+1) (by omega) (by simp;omega);obtain⟨k,rfl⟩:=Zx i0;simpa[nth,show ((k:Int)+1).toNat=k+1 by omega] using this⟩;simp only[nth,Int.toNat_zero,getD_cons_zero] at h0;simp only[sum_cons];by_cases e:v=w
   ·subst e;have:a≠b:=λe=>hne (by rw[e]);omega
   ·have:=ih h1 e;omega
def up1 (v:List Int) (k m:Int):List Int:=if nth v k<m then v.set k.toNat m else v
def QcV (v:List Int) (k m:Int):(up1 v k m).length=v.length:=by unfold up1;split<;>simp
def Qjb {v:List Int} {k m i:Int} (k0:0<=k) (k1:k<v.length) (i0:0<=i):nth (up1 v k m) i=if k=i then max (nth v k) m else nth v i:=by
 unfold up1;split
 ·rw[QCi k0 i0 k1];split
  ·omega
  ·rfl
 ·split
  ·next e=>subst e;omega
  ·rfl
def QiB {v:List Int} {k m:Int} (k0:0<=k) (k1:k<v.length):NLe v (up1 v k m):=⟨(QcV v k m).symm,λi i0 i1=>by
 rw[Qjb k0 k1 i0];split
 ·next e=>subst e;omega
 ·exact ZO _⟩
def Qk3 {v:List Int} {k m:Int} (k0:0<=k) (k1:k<v.length):up1 v k m=v↔m<=nth v k:=by
 constructor
 ·intro h;have:=Qjb (m:=m) k0 k1 k0;rw[h,Zc rfl] at this;omega
 ·intro h;unfold up1;rw[Zd (by omega)]
structure CInv (n:Nat) (P:Qi->Prop) (R:Int->Int->Prop) (E:Int->Prop) (v:List Int):Prop where
 len:v.length=n
 nn:∀z∈v,0<=z/\z<=9223372036854775807
 reg:((∀z∈v,z<=65536)/\∀x,CSol n P R E x->NLe v x)\/((∃z∈v,65536<z)/\¬CSat n P R E)
section
variable {n:Nat} {P:Qi->Prop} {R:Int->Int->Prop} {E:Int->Prop} {v:List Int}
def CInv.at (h:CInv n P R E v) {i:Int} (i0:0<=i) (i1:i<n):0<=nth v i/\nth v i<=9223372036854775807:=h.nn _ (Qcr i0 (by rw[h.len];exact i1))
def CInv.up (h:CInv n P R E v) {k m:Int} (k0:0<=k) (k1:k<n) (hm:m<=9223372036854775807) (hs:(∀z∈v,0<=z/\z<=65536)->∀x,CSol n P R E x->NLe v x->m<=nth x k):CInv n P R E (up1 v k m):=by
 have k1':k<v.length:=by rw[h.len];exact k1
 have hk:=h.at k0 k1;have hnn:∀z∈up1 v k m,0<=z/\z<=9223372036854775807:=λz hz=>by obtain⟨i,i0,i1,rfl⟩:=Qja hz;rw[QcV,h.len] at i1;rw[Qjb k0 k1' i0];have:=h.at i0 i1;split<;>omega
 refine⟨(QcV v k m).trans h.len,hnn,?_⟩;rcases h.reg with⟨h1,h2⟩ | ⟨⟨z,hz,hlt⟩,h2⟩
 ·have hx:∀x,CSol n P R E x->NLe (up1 v k m) x:=λx hx=>by
   have hle:=h2 x hx;have hmx:=hs (λz hz=>⟨(h.nn z hz).1,h1 z hz⟩) x hx hle;refine⟨(QcV v k m).trans hle.1,λi i0 i1=>?_⟩;rw[QcV] at i1;rw[Qjb k0 k1' i0];have:=hle.2 i i0 i1;split
   ·next e=>subst e;omega
   ·exact this
  by_cases hb:∀z∈up1 v k m,z<=65536
  ·exact .inl ⟨hb,hx⟩
  ·refine .inr ?_;have hb':∃z∈up1 v k m,65536<z:=Classical.byContradiction λhc=>hb λz hz=>Int.not_lt.1 λhl=>hc ⟨z,hz,hl⟩;refine⟨hb',λ⟨x,hsx⟩=>?_⟩;obtain⟨z,hz,hlt⟩:=hb';obtain⟨i,i0,i1,rfl⟩:=Qja hz;have h3:=(hx x hsx).2 i i0 i1;have h4:=(hsx.num _ (Qcr i0 (by rw[<-(hx x hsx).1];exact i1))).2;omega
 ·refine .inr ⟨?_,h2⟩;obtain⟨i,i0,i1,rfl⟩:=Qja hz;refine⟨nth (up1 v k m) i,Qcr i0 (by rw[QcV];exact i1),?_⟩;rw[Qjb k0 k1' i0];split
  ·next e=>subst e;omega
  ·exact hlt
def CInv.zero:CInv n P R E (replicate n 0):=by refine⟨by simp,λz hz=>by rw[(mem_replicate.1 hz).2];omega,.inl ⟨λz hz=>by rw[(mem_replicate.1 hz).2];omega,λx hx=>⟨by rw[Yq,hx.len],λi i0 i1=>?_⟩⟩⟩;rw[Yq] at i1;have h1:nth (replicate n 0) i=0:=(mem_replicate.1 (Qcr i0 (by rw[Yq];exact i1))).2;rw[h1];exact (hx.num _ (Qcr i0 (by rw[hx.len];exact i1))).1
def rsO (y:Qi) (v:List Int):Int:=if y.B>=0 then nth v y.B else 1
def rsF (y:Qi):Bool:=decide (y.B<0)||(y.Mul==0)
def rsK (y:Qi):Int:=if y.Xh=true then y.A else if rsF y=true then y.A else y.B
def rsN (y:Qi) (v:List Int):Int:=if y.Xh=true then i64.wrap (y.Mul * rsO y v) else if rsF y=true then 0 else i64.wrap (Int.tdiv (i64.wrap (i64.wrap (nth v y.A+y.Mul) - 1)) y.Mul)
def rsB (y:Qi) (v:List Int):Bool:=if y.Xh=true then true else if rsF y=true then decide (nth v y.A<=y.Mul) else true
def Qry (y:Qi) (v:List Int):rsN y v<=9223372036854775807:=by
 unfold rsN;split
 ·exact (Qpy _).2
 ·split
  ·omega
  ·exact (Qpy _).2
def QiC {y:Qi} (hy:VL y n):0<=rsK y/\rsK y<n:=by
 have:=hy.a0;have:=hy.a1;have:=hy.b1;unfold rsK;split
 ·exact⟨hy.a0,hy.a1⟩
 ·split
  ·exact⟨hy.a0,hy.a1⟩
  ·next h=>simp only[rsF,ZA,Zk,not_or] at h;exact⟨by omega,hy.b1⟩
def Qrz {y:Qi} (hy:VL y n) (hv:∀z∈v,0<=z/\z<=65536) (hl:v.length=n) (hL:y.Xh=true):rsN y v=if y.B<0 then y.Mul else y.Mul * nth v y.B:=by
 have:=hy.m0;have:=hy.m1;have:=hy.b0;have:=hy.b1;unfold rsN rsO;rw[Zc hL];by_cases hb:y.B<0
 ·rw[Zd (by omega),Zc hb,Int.mul_one,w64 (by omega) (by omega)]
 ·have h:=hv _ (Qcr (by omega) (by rw[hl];exact hy.b1):nth v y.B∈v);have hm:=QCg hy.m0 hy.m1 h.1 h.2;rw[Zc (by omega),Zd hb,w64 (by omega) (by omega)]
def Qtq {y:Qi} (hy:VL y n) (hv:∀z∈v,0<=z/\z<=65536) (hl:v.length=n) (hL:¬y.Xh=true) (hF:¬rsF y=true):rsN y v=(nth v y.A+y.Mul - 1) / y.Mul/\0<y.Mul/\0<=y.B:=by have:=hy.m0;have:=hy.m1;have:=hy.b0;have:=hy.b1;have hF':=hF;simp only[rsF,ZA,Zk,Yd,not_or] at hF';have h:=hv _ (Qcr hy.a0 (by rw[hl];exact hy.a1):nth v y.A∈v);refine⟨?_,by omega,by omega⟩;unfold rsN;rw[Zd hL,Zd hF,w64 (n:=nth v y.A+y.Mul) (by omega) (by omega),w64 (n:=nth v y.A+y.Mul - 1) (by omega) (by omega),Int.tdiv_eq_ediv_of_nonneg (by omega)];have h0:0<=(nth v y.A+y.Mul - 1) / y.Mul:=Int.ediv_nonneg (by omega) (by omega);have h1:(nth v y.A+y.Mul - 1) / y.Mul<=nth v y.A+y.Mul - 1:=Int.ediv_le_self _ (by omega);rw[w64 (by omega) (by omega)]
def rs_le {y:Qi} (hy:VL y n) (hP:P y) (hl:v.length=n) (hv:∀z∈v,0<=z/\z<=65536) {x:List Int} (hx:CSol n P R E x) (hle:NLe v x):rsN y v<=nth x (rsK y):=by
 have:=hy.m0;have:=hy.m1;have:=hy.b0;have:=hy.b1;have:=hy.a0;have:=hy.a1;have hk:=hx.keep y hP;unfold Qn7 bndS at hk;by_cases hL:y.Xh=true
 ·rw[Qrz hy hv hl hL];unfold rsK;rw[Zc hL] at hk ⊢;by_cases hb:y.B<0
  ·rw[Zc hb] at hk ⊢;simpa using hk
  ·rw[Zd hb] at hk ⊢;have h1:y.Mul * nth v y.B<=y.Mul * nth x y.B:=Int.mul_le_mul_of_nonneg_left (hle.2 _ (by omega) (by rw[hl];exact hy.b1)) hy.m0;have h2:nth x y.A>=y.Mul * nth x y.B:=ZC hk;omega
 ·rw[Zd hL] at hk;by_cases hF:rsF y=true
  ·unfold rsN rsK;rw[Zd hL,Zd hL,Zc hF,Zc hF];exact (hx.num _ (Qcr hy.a0 (by rw[hx.len];exact hy.a1))).1
  ·obtain⟨e,h1,h2⟩:=Qtq hy hv hl hL hF;rw[e];unfold rsK;rw[Zd hL,Zd hF];rw[Zd (by omega)] at hk;have hk:nth x y.A<=y.Mul * nth x y.B:=ZC hk;have h3:=hle.2 _ hy.a0 (by rw[hl];exact hy.a1);exact (Qtk h1).2 (by omega)
def rs_bad {y:Qi} (hy:VL y n) (hP:P y) (h:CInv n P R E v) (hb:rsB y v=false):¬CSat n P R E:=by
 rcases h.reg with⟨h1,h2⟩ | ⟨_,h2⟩
 ·rintro ⟨x,hx⟩;have:=hy.a0;have:=hy.a1;unfold rsB at hb;split at hb
  ·cases hb
  ·next hL=>
   split at hb
   ·next hF=>
    have hlt:=ZS hb;have hle:=(h2 x hx).2 _ hy.a0 (by rw[h.len];exact hy.a1);have hk:=hx.keep y hP;unfold Qn7 bndS at hk;rw[Zd hL] at hk;simp only[rsF,ZA,Zk,Yd] at hF;by_cases hB:y.B<0
    ·rw[Zc hB] at hk;have:=ZC hk;omega
    ·have hm:y.Mul=0:=by omega
     rw[Zd hB,hm,Int.zero_mul] at hk;have:=ZC hk;omega
   ·cases hb
 ·exact h2
def QCy {y:Qi} (hy:VL y n) (hl:v.length=n) (hv:∀z∈v,0<=z/\z<=65536) (hb:rsB y v=true) (hd:rsN y v<=nth v (rsK y)):Qn7 y v=true:=by
 have:=hy.m0;have:=hy.b0;unfold Qn7 bndS;by_cases hL:y.Xh=true
 ·rw[Qrz hy hv hl hL] at hd;unfold rsK at hd;rw[Zc hL] at hd ⊢;by_cases hB:y.B<0
  ·rw[Zc hB] at hd ⊢;exact decide_eq_true hd
  ·rw[Zd hB] at hd ⊢;exact decide_eq_true hd
 ·rw[Zd hL];by_cases hF:rsF y=true
  ·unfold rsB at hb;rw[Zd hL,Zc hF] at hb;have hle:=ZC hb;simp only[rsF,ZA,Zk,Yd] at hF;by_cases hB:y.B<0
   ·rw[Zc hB];exact decide_eq_true hle
   ·have hm:y.Mul=0:=by omega
    rw[Zd hB,hm,Int.zero_mul];exact decide_eq_true (by omega)
  ·obtain⟨e,h1,h2⟩:=Qtq hy hv hl hL hF;rw[e] at hd;unfold rsK at hd;rw[Zd hL,Zd hF] at hd;rw[Zd (by omega)];exact decide_eq_true ((Qtk h1).1 hd)
def rndL:List Qi->List Int->Option (List Int)
 | [],v=>some v
 | y::l,v=>if rsB y v=true then rndL l (up1 v (rsK y) (rsN y v)) else none
def rndR:List (Int×Int)->List Int->List Int
 | [],v=>v
 | r::l,v=>rndR l (up1 v r.2 (imin 1 (nth v r.1)))
def Qo4:∀(l:List Qi) (v:List Int),(∀y∈l,VL y n/\P y)->CInv n P R E v->(∀w,rndL l v=some w->CInv n P R E w/\NLe v w)/\(rndL l v=none->¬CSat n P R E)
 | [],v,_,hv=>⟨λw hw=>by obtain rfl:=Zt hw;exact⟨hv,NLe.refl _⟩,λh=>nomatch h⟩
 | y::l,v,hl,hv=>by
  obtain⟨hy,hP⟩:=hl y (Zn ..);have hk:=QiC hy;unfold rndL;by_cases hb:rsB y v=true
  ·rw[Zc hb];have hu:CInv n P R E (up1 v (rsK y) (rsN y v)):=hv.up hk.1 hk.2 (Qry y v) λhn x hx hle=>rs_le hy hP hv.len hn hx hle;obtain⟨h1,h2⟩:=Qo4 l _ (λz hz=>hl z (Zq _ hz)) hu;exact⟨λw hw=>⟨(h1 w hw).1,(QiB hk.1 (by rw[hv.len];exact hk.2)).trans (h1 w hw).2⟩,h2⟩
  ·rw[Zd hb];exact⟨λw hw=>(nomatch hw),λ_=>rs_bad hy hP hv (by simpa using hb)⟩
def Qtr:∀(l:List (Int×Int)) (v:List Int),(∀r∈l,(0<=r.1/\r.1<n)/\(0<=r.2/\r.2<n)/\R r.1 r.2)->CInv n P R E v->CInv n P R E (rndR l v)/\NLe v (rndR l v)
 | [],v,_,hv=>⟨hv,NLe.refl _⟩
 | r::l,v,hl,hv=>by
  obtain⟨ha,hb,hR⟩:=hl r (Zn ..);have hu:CInv n P R E (up1 v r.2 (imin 1 (nth v r.1))):=hv.up hb.1 hb.2 (by unfold imin;split<;>omega) λhn x hx hle=>by have h1:=hle.2 r.1 ha.1 (by rw[hv.len];exact ha.2);have h2:=hx.ref r.1 r.2 hR;have h3:=(hx.num _ (Qcr hb.1 (by rw[hx.len];exact hb.2))).1;have h4:=(hn _ (Qcr ha.1 (by rw[hv.len];exact ha.2))).1;unfold imin;split<;>omega
  obtain⟨h1,h2⟩:=Qtr l _ (λz hz=>hl z (Zq _ hz)) hu;unfold rndR;exact⟨h1,(QiB hb.1 (by rw[hv.len];exact hb.2)).trans h2⟩
def Qjc:∀(l:List Qi) (v w:List Int),(∀y∈l,VL y n)->v.length=n->rndL l v=some w->NLe v w
 | [],v,w,_,_,h=>by obtain rfl:=Zt h;exact NLe.refl _
 | y::l,v,w,hl,hv,h=>by
  have hk:=QiC (hl y (Zn ..));unfold rndL at h;split at h
  ·exact (QiB hk.1 (by rw[hv];exact hk.2)).trans (Qjc l _ w (λz hz=>hl z (Zq _ hz)) ((QcV ..).trans hv) h)
  ·cases h
def Qjd:∀(l:List (Int×Int)) (v:List Int),(∀r∈l,0<=r.2/\r.2<n)->v.length=n->NLe v (rndR l v)
 | [],v,_,_=>NLe.refl _
 | r::l,v,hl,hv=>by have hk:=hl r (Zn ..);exact (QiB hk.1 (by rw[hv];exact hk.2)).trans (Qjd l _ (λz hz=>hl z (Zq _ hz)) ((QcV ..).trans hv))
def QrA:∀(l:List Qi) (v:List Int),(∀y∈l,VL y n)->v.length=n->rndL l v=some v->∀y∈l,rsB y v=true/\rsN y v<=nth v (rsK y)
 | [],_,_,_,_=>by simp
 | y::l,v,hl,hv,h=>by
  have hk:=QiC (hl y (Zn ..));have hk2:rsK y<v.length:=by rw[hv];exact hk.2
  unfold rndL at h;split at h
  ·next hb=>
   have h1:=QiB (m:=rsN y v) hk.1 hk2;have h2:=Qjc l _ v (λz hz=>hl z (Zq _ hz)) ((QcV ..).trans hv) h;have e:=(h1.anti h2).symm;rw[e] at h;have ih:=QrA l v (λz hz=>hl z (Zq _ hz)) hv h;intro z hz;rcases Zo.1 hz with rfl | hz
   ·exact⟨hb,(Qk3 hk.1 hk2).1 e⟩
   ·exact ih z hz
  ·cases h
def QrB:∀(l:List (Int×Int)) (v:List Int),(∀r∈l,0<=r.2/\r.2<n)->v.length=n->rndR l v=v->∀r∈l,imin 1 (nth v r.1)<=nth v r.2
 | [],_,_,_,_=>by simp
 | r::l,v,hl,hv,h=>by
  have hk:=hl r (Zn ..);have hk2:r.2<v.length:=by rw[hv];exact hk.2
  unfold rndR at h;have h1:=QiB (m:=imin 1 (nth v r.1)) hk.1 hk2;have h2:=Qjd l (up1 v r.2 (imin 1 (nth v r.1))) (λz hz=>hl z (Zq _ hz)) ((QcV ..).trans hv);rw[h] at h2;have e:=(h1.anti h2).symm;rw[e] at h;have ih:=QrB l v (λz hz=>hl z (Zq _ hz)) hv h;intro z hz;rcases Zo.1 hz with rfl | hz
  ·exact (Qk3 hk.1 hk2).1 e
  ·exact ih z hz
end
def rnd (l:List Qi) (r:List (Int×Int)) (v:List Int):Option (List Int):=(rndL l v).map (rndR r)
def over (E:Int->Bool) (n:Nat) (v:List Int):Bool:=(range n).any λk=>decide (65536<nth v (k:Int))||(decide (0<nth v (k:Int))&&E (k:Int))
def QiV (E:Int->Bool) (n:Nat) (l:List Qi) (r:List (Int×Int)):Nat->List Int->Bool
 | 0,_=>false
 | f+1,v=>match rnd l r v with
  | none=>false
  | some w=>if over E n w=true then false else if w=v then true else QiV E n l r f w
def Qk4 {E:Int->Bool} {n:Nat} {v:List Int}:over E n v=false↔∀k:Int,0<=k->k<n->nth v k<=65536/\(0<nth v k->E k=false):=by
 unfold over;rw[any_eq_false];constructor
 ·intro h k k0 k1;obtain⟨j,rfl⟩:=Zx k0;have:=h j (ZP.2 (by omega));simp only[ZA,Zf,Zk,not_or,not_and] at this;exact⟨by omega,λhp=>by simpa using this.2 hp⟩
 ·intro h j hj;have:=h (j:Int) (by omega) (by have:=ZP.1 hj;omega);simp only[ZA,Zf,Zk,not_or,not_and];exact⟨by omega,λhp=>by simp[this.2 hp]⟩
def QrC:∀(v:List Int),(∀z∈v,0<=z/\z<=65536)->0<=v.sum/\v.sum<=65536 * v.length
 | [],_=>by simp
 | z::v,h=>by have:=QrC v λy hy=>h y (Zq _ hy);have:=h z (Zn ..);simp only[sum_cons,Zj];omega
section
variable {n:Nat} {E:Int->Bool} {l:List Qi} {r:List (Int×Int)}
def QpN (hl:∀y∈l,VL y n) (hr:∀p∈r,(0<=p.1/\p.1<n)/\(0<=p.2/\p.2<n)):∀(f:Nat) (v:List Int),CInv n (λy=>y∈l) (λa b=>(a,b)∈r) (λk=>E k=true) v->(∀z∈v,0<=z/\z<=65536)->65536 * (n:Int) - v.sum<f->
  (QiV E n l r f v=true↔CSat n (λy=>y∈l) (λa b=>(a,b)∈r) (λk=>E k=true))
 | 0,v,hv,hz,hf=>by have:=QrC v hz;rw[hv.len] at this;omega
 | f+1,v,hv,hz,hf=>by
  obtain⟨h1,h2⟩:=Qo4 (R:=λa b=>(a,b)∈r) (E:=λk=>E k=true) l v (λy hy=>⟨hl y hy,hy⟩) hv;unfold QiV rnd
  cases hL:rndL l v with
  | none=>simp only[Option.map_none];exact⟨λh=>(nomatch h),λh=>absurd h (h2 hL)⟩
  | some u=>
   simp only[Ya];obtain⟨hu,hvu⟩:=h1 u hL;obtain⟨hw,huw⟩:=Qtr r u (λp hp=>⟨(hr p hp).1,(hr p hp).2,hp⟩) hu;have hvw:=hvu.trans huw
   cases ho:over E n (rndR r u) with
   | true=>
    rw[Zc rfl];refine⟨λh=>(nomatch h),λhs=>?_⟩;exfalso;have:¬over E n (rndR r u)=false:=by rw[ho];simp
    refine this (Qk4.2 λk k0 k1=>?_);rcases hw.reg with⟨g1,g2⟩ | ⟨_,g2⟩
    ·obtain⟨x,hx⟩:=hs;refine⟨g1 _ (Qcr k0 (by rw[hw.len];exact k1)),λhp=>?_⟩;have hle:=(g2 x hx).2 k k0 (by rw[hw.len];exact k1)
     cases hE:E k with
     | false=>rfl
     | true=>have:=hx.emp k k0 k1 hE;omega
    ·exact absurd hs g2
   | false=>
    rw[Zd (by simp)];have hov:=Qk4.1 ho;have hz':∀z∈rndR r u,0<=z/\z<=65536:=λz hz=>by obtain⟨i,i0,i1,rfl⟩:=Qja hz;rw[hw.len] at i1;exact⟨(hw.at i0 i1).1,(hov i i0 i1).1⟩
    by_cases he:rndR r u=v
    ·rw[Zc he];refine⟨λ_=>?_,λ_=>rfl⟩;have e1:u=v:=(hvu.anti (by rw[he] at huw;exact huw)).symm;subst e1;rw[he] at hov;have fL:=QrA l u hl hv.len hL;have fR:=QrB r u (λp hp=>(hr p hp).2) hv.len he;refine⟨u,hv.len,hz,λy hy=>QCy (hl y hy) hv.len hz (fL y hy).1 (fL y hy).2,λa b hab hp=>?_,λk k0 k1 hE=>?_⟩
     ·have:=fR (a,b) hab;unfold imin at this;dsimp only at this;split at this<;>omega
     ·have h0:=(hz _ (Qcr k0 (by rw[hv.len];exact k1))).1;have h3:=(hov k k0 k1).2;by_cases hp:0<nth u k
      ·rw[h3 hp] at hE;cases hE
      ·omega
    ·rw[Zd he];have:=QwR hvw λe=>he e.symm;exact QpN hl hr f _ hw hz' (by omega)
end
def Qih (E:Int->Bool) (n:Nat) (l:List Qi) (r:List (Int×Int)):Bool:=QiV E n l r (65536 * n+1) (replicate n 0)
def QrD (n:Nat):(replicate n (0:Int)).sum=0:=by
 induction n with
 | zero=>rfl
 | succ n ih=>rw[replicate_succ,sum_cons,ih];rfl
def QwS {n:Nat} {E:Int->Bool} {l:List Qi} {r:List (Int×Int)} (hl:∀y∈l,VL y n) (hr:∀p∈r,(0<=p.1/\p.1<n)/\(0<=p.2/\p.2<n)):
  Qih E n l r=true↔CSat n (λy=>y∈l) (λa b=>(a,b)∈r) (λk=>E k=true):=
 QpN hl hr _ _ CInv.zero (λz hz=>by rw[(mem_replicate.1 hz).2];omega) (by rw[QrD];omega)
def QpO {n:Nat} {E:Int->Bool} {l:List Qi} {r:List (Int×Int)} (hl:∀y∈l,VL y n) (hr:∀p∈r,(0<=p.1/\p.1<n)/\(0<=p.2/\p.2<n)) {ρ:Type} {body:List Int->Option (List Int⊕ρ)} (o:Bool->ρ)
  (hb:∀v:List Int,v.length=n->(∀z∈v,0<=z/\z<=65536)->body v=some (match rnd l r v with | none=>.inr (o false) | some w=>if over E n w=true then .inr (o false) else if w=v then .inr (o true) else .inl w)):
  Ql body (replicate n 0)=some (o (Qih E n l r)):=by
 have key:∀(f:Nat) (v:List Int),v.length=n->(∀z∈v,0<=z/\z<=65536)->65536 * (n:Int) - v.sum<f->Ql body v=some (o (QiV E n l r f v)):=by
  intro f
  induction f with
  | zero=>intro v hv hz hf;have:=QrC v hz;rw[hv] at this;omega
  | succ f ih=>
   intro v hv hz hf;rw[Qac,hb v hv hz];unfold QiV
   cases hR:rnd l r v with
   | none=>rfl
   | some w=>
    dsimp only
    cases ho:over E n w with
    | true=>rfl
    | false=>
     by_cases he:w=v
     ·simp only[Zc he,ZL,if_false]
     ·simp only[Zd he,ZL,if_false];unfold rnd at hR
      cases hL:rndL l v with
      | none=>rw[hL] at hR;cases hR
      | some u=>rw[hL] at hR;obtain rfl:=Zt hR;have h1:=Qjc l v u hl hv hL;have h2:=Qjd r u (λp hp=>(hr p hp).2) (h1.1.symm.trans hv);have h3:=h1.trans h2;have hov:=Qk4.1 ho;have hw:(rndR r u).length=n:=h3.1.symm.trans hv;refine ih _ hw (λz hz'=>?_) (by have:=QwR h3 λe=>he e.symm;omega);obtain⟨i,i0,i1,rfl⟩:=Qja hz';rw[hw] at i1;have h4:=h3.2 i i0 (by rw[hv];exact i1);have h5:=(hz _ (Qcr i0 (by rw[hv];exact i1))).1;exact⟨by omega,(hov i i0 i1).1⟩
 exact key _ _ (by simp) (λz hz=>by rw[(mem_replicate.1 hz).2];omega) (by rw[QrD];omega)
def Qsv (a b:List Int) (ha:a.length<1000000):QeI a b=some (decide (a=b)):=by
 unfold QeI;by_cases hl:a.length=b.length
 ·rw[Zd (by simp[hl])];refine QlT a.length (λk=>a.getD k 0 !=b.getD k 0) (.inl ()) (λ_=>.inr false) ?_ ?_ ?_ ?_ ?_
  ·intro k hk hp;have hk':k<b.length:=by omega
   rw[Zi,Zb hk,Zi,Zb hk'] at hp;simp only[Yk,bne_eq_false_iff_eq] at hp;rw[Zc (by simpa using hk),QG hk,QG hk'];simp only[Za];rw[Zd (by simpa using hp),Qw hk (by omega)]
  ·intro k hk hp;have hk':k<b.length:=by omega
   rw[Zi,Zb hk,Zi,Zb hk'] at hp;simp only[Yk] at hp;rw[Zc (by simpa using hk),QG hk,QG hk'];simp only[Za];rw[Zc hp]
  ·rw[Zd (by simp)]
  ·intro hp;have:a=b:=by
    apply ext_getElem hl;intro k h1 h2;have:=hp k h1;rw[Zi,Zb h1,Zi,Zb h2] at this;simpa using this
   simp[this]
  ·intro k hk hp;have:a≠b:=by
    rintro rfl;simp at hp
   simp[this]
 ·rw[Zc (by simp;omega)];have:a≠b:=by rintro rfl;exact hl rfl
  simp[this]
def upd1 {α:Type} (R:Nat->α) (k:Nat) (v:α):Nat->α:=λq=>if q=k then v else R q
def QiD {α:Type} {R:Nat->α} {k:Nat} {v:α}:upd1 R k v k=v:=Zc rfl
def QCz {α:Type} {R:Nat->α} {k q:Nat} {v:α} (h:q≠k):upd1 R k v q=R q:=Zd h
def Ql3 {α:Type} {R:Nat->α} {k:Nat} {v w:α}:upd1 (upd1 R k v) k w=upd1 R k w:=by funext q;unfold upd1;split<;>rfl
def rowL {α:Type} (m:Nat) (R:Nat->α):List α:=(range m).map R
def Qng {α:Type} {m:Nat} {R:Nat->α}:(rowL m R).length=m:=by simp[rowL]
def QbI {α:Type} {m:Nat} {R:Nat->α} {k:Nat} (h:k<m):idx (rowL m R) (k:Int)=some (R k):=by rw[QG (by rw[Qng];exact h)];simp[rowL]
def QfE {α:Type} {m:Nat} {R:Nat->α} {k:Nat} (h:k<m) (v:α):setAt (rowL m R) (k:Int) v=some (rowL m (upd1 R k v)):=by
 rw[Qgz (by rw[Qng];exact h)];congr 1;apply ext_getElem
 ·simp[rowL]
 ·intro i h1 h2;simp only[rowL,getElem_set,getElem_map,getElem_range,upd1];by_cases hi:k=i
  ·rw[Zc hi,Zc hi.symm]
  ·rw[Zd hi,Zd (λh=>hi h.symm)]
def QiW {α:Type} {m:Nat} {R S:Nat->α} (h:∀k,k<m->R k=S k):rowL m R=rowL m S:=by unfold rowL;apply map_congr_left;intro k hk;exact h k (by simpa using hk)
def QrE {α:Type} (m:Nat) (v:α):rowL m (λ_=>v)=replicate m v:=by unfold rowL;rw[map_const'];simp
abbrev INF:Int:=1099511627776
structure Ed where
 a:Nat
 b:Nat
 w:Int
def Qo5 (a b:Int):imin a b<=a/\imin a b<=b/\(imin a b=a\/imin a b=b):=by unfold imin;split<;>omega
def Qur (n:Nat) (p:Nat->Bool) (h:∃k,k<n/\p k=true):∃k,k<n/\p k=true/\∀j,j<k->p j=false:=by
 induction n with
 | zero=>obtain⟨k,hk,_⟩:=h;omega
 | succ n ih=>
  by_cases h2:∃k,k<n/\p k=true
  ·obtain⟨k,hk,hp,hm⟩:=ih h2;exact⟨k,by omega,hp,hm⟩
  ·obtain⟨k,hk,hp⟩:=h;have hkn:k=n:=by
    rcases Nat.lt_or_ge k n with h3 | h3
    ·exact (h2 ⟨k,h3,hp⟩).elim
    ·omega
   subst hkn;refine⟨k,hk,hp,λj hj=>?_⟩;rw[<-Bool.not_eq_true];exact λh3=>h2 ⟨j,hj,h3⟩
def badD (n:Int) (d:QE):Bool:=((((((decide (d.A< -1)||decide (d.A>=n))||decide (d.B< -1))||decide (d.B>=n))||d.A==d.B)||decide (d.N< -2097152))||decide (d.N>2097152))
def Qbb (n:Int) (l:List QE):Int:=if (decide (n>10)||decide ((l.length:Int)>64))=true then 4 else if decide (n<0)=true then 1 else if l.any (badD n)=true then 1 else 0
def Qsw (n:Int) (l:List QE):Qgv n l=some (Qbb n l):=by
 unfold Qgv Qbb;by_cases h1:(decide (n>10)||decide ((l.length:Int)>64))=true
 ·rw[Zc h1,Zc h1]
 ·rw[Zd h1,Zd h1];by_cases h2:decide (n<0)=true
  ·rw[Zc h2,Zc h2]
  ·rw[Zd h2,Zd h2];have hl:l.length<=64:=by simp only[ZA,Zk,not_or] at h1;omega
   refine QlT l.length (λk=>badD n (l.getD k default)) (.inl ()) (λ_=>.inr 1) ?_ ?_ ?_ ?_ ?_
   ·intro k hk hp;rw[Zc (by simpa using hk),QG hk];rw[Zi,Zb hk] at hp;simp only[Za];rw[Zd (by intro h;have:badD n l[k]=true:=h;rw[show badD n l[k]=false from hp] at this;cases this),Qw (n:=l.length) hk (by omega)]
   ·intro k hk hp;rw[Zc (by simpa using hk),QG hk];rw[Zi,Zb hk] at hp;simp only[Za];exact Zc (show badD n l[k]=true from hp)
   ·rw[Zd (by simp)]
   ·intro hno;have:l.any (badD n)=false:=by
     rw[any_eq_false];intro x hx;obtain⟨k,hk,rfl⟩:=Ye hx;have:=hno k hk;rw[Zi,Zb hk] at this;simpa using this
    simp only;rw[this];rfl
   ·intro k hk hp;rw[Zi,Zb hk] at hp;have:l.any (badD n)=true:=Yo.2 ⟨_,Zm hk,hp⟩;simp only;rw[this];rfl
def valid0 {n:Int} {l:List QE} (h:Qbb n l=0):0<=n/\n<=10/\l.length<=64/\∀d∈l,-1<=d.A/\d.A<n/\-1<=d.B/\d.B<n/\d.A≠d.B/\-2097152<=d.N/\d.N<=2097152:=by
 unfold Qbb at h;split at h
 ·cases h
 ·rename_i h1;split at h
  ·cases h
  ·rename_i h2;split at h
   ·cases h
   ·rename_i h3;simp only[ZA,Zk,not_or] at h1 h2;refine⟨by omega,by omega,by omega,λd hd=>?_⟩;have:badD n d=false:=by
     rw[<-Bool.not_eq_true];intro hb;exact h3 (Yo.2 ⟨d,hd,hb⟩)
    simp only[badD,Bool.or_eq_false_iff,ZK,beq_eq_false_iff_ne,ne_eq] at this;obtain⟨⟨⟨⟨⟨⟨a1,a2⟩,a3⟩,a4⟩,a5⟩,a6⟩,a7⟩:=this;exact⟨by omega,by omega,by omega,by omega,a5,by omega,by omega⟩
def rowN (m:Nat) (a:Int):Nat:=if a<0 then m - 1 else a.toNat
def edN (m:Nat) (d:QE):Ed:=⟨rowN m d.A,rowN m d.B,d.N⟩
def edS (m:Nat) (d:QE):Qaa:=⟨(rowN m d.A:Int),(rowN m d.B:Int),d.N⟩
def Qts {m:Nat} {a:Int} (h1:-1<=a) (h2:a<(m:Int) - 1):rowN m a<m:=by unfold rowN;split<;>omega
def Qtt {m:Nat} {a:Int} (hm:1<=m) (hm2:m<=11) (h1:-1<=a) (h2:a<(m:Int) - 1):Int.tmod (i64.wrap (i64.wrap (a+((m:Int) - 1))+1)) (m:Int)=(rowN m a:Int):=by
 rw[w64 (n:=a+((m:Int) - 1)) (by omega) (by omega),w64 (by omega) (by omega)];unfold rowN;split
 ·have:a=-1:=by omega
  subst this;rw[Int.tmod_eq_emod_of_nonneg (by omega),Int.emod_eq_of_lt (by omega) (by omega)];omega
 ·rw[Int.tmod_eq_emod_of_nonneg (by omega)];have:a+((m:Int) - 1)+1=a+m:=by omega
  rw[this,Int.add_emod_right,Int.emod_eq_of_lt (by omega) (by omega)];omega
def Qje {m:Nat} {a:Int} (h1:-1<=a) (h2:a<(m:Int) - 1):QaQ ((m:Int) - 1) a=some ((rowN m a:Nat):Int):=by
 unfold QaQ rowN;by_cases h:a<0
 ·rw[Zc (by simpa using h),Zc h];congr 1;omega
 ·rw[Zd (by simpa using h),Zd h];congr 1;omega
def Ql4 (n:Int) (d:QE):(((((decide (imin d.A d.B< -1))||(decide (imax d.A d.B>=n)))||(d.A==d.B))||(decide (d.N< -2097152)))||(decide (d.N>2097152)))=badD n d:=by
 have e:(decide (imin d.A d.B< -1)||decide (imax d.A d.B>=n))=((decide (d.A< -1)||decide (d.A>=n))||decide (d.B< -1)||decide (d.B>=n)):=by
  have i1:imin d.A d.B< -1↔(d.A< -1\/d.B< -1):=by unfold imin;split<;>omega
  have i2:imax d.A d.B>=n↔(d.A>=n\/d.B>=n):=by unfold imax;split<;>omega
  rw[ZY];simp only[ZA,Zk,i1,i2];omega
 unfold badD;rw[e]
def QyV (n:Int) (l:List QE):QfS n l=some (if Qbb n l=0 then (l.map (edS (n+1).toNat),0) else ([],Qbb n l)):=by
 unfold QfS;by_cases h1:(decide (n>10)||decide ((l.length:Int)>64))=true
 ·have e:Qbb n l=4:=by unfold Qbb;rw[Zc h1]
  rw[Zc h1,e];rfl
 ·rw[Zd h1];by_cases h2:decide (n<0)=true
  ·have e:Qbb n l=1:=by unfold Qbb;rw[Zd h1,Zc h2]
   rw[Zc h2,e];rfl
  ·rw[Zd h2];have hl:l.length<=64:=by simp only[ZA,Zk,not_or] at h1;omega
   have hn:0<=n/\n<=10:=by simp only[ZA,Zk,not_or] at h1 h2;omega
   obtain⟨m,hm⟩:∃m:Nat,n=(m:Int) - 1:=⟨(n+1).toNat,by omega⟩;subst hm;have hmm:((m:Int) - 1+1).toNat=m:=by omega
   rw[hmm,Qis _ _ (by omega)];simp only[Za];have hw:i64.wrap ((m:Int) - 1+1)=(m:Int):=by rw[w64 (by omega) (by omega)];omega
   rw[hw];have st:∀k,k<l.length->badD ((m:Int) - 1) (l.getD k default)=false->∀z:List Qaa,z.length=l.length->
     (idx l (k:Int)).bind (λt26=>(if (((((decide (imin t26.A t26.B< -1))||(decide (imax t26.A t26.B>=(m:Int) - 1)))||(t26.A==t26.B))||(decide (t26.N< -2097152)))||(decide (t26.N>2097152)))=true then (some (.inr (.inr ((1:Int),([]:List Qaa)))):Option ((Int×List Qaa)⊕((List Qaa)⊕(Int×List Qaa)))) else (nz (m:Int)).bind λ_=>(nz (m:Int)).bind λ_=>(setAt z (k:Int) (Qaa.mk (Int.tmod (i64.wrap (i64.wrap (t26.A+((m:Int) - 1))+1)) (m:Int)) (Int.tmod (i64.wrap (i64.wrap (t26.B+((m:Int) - 1))+1)) (m:Int)) t26.N)).bind λt81s=>some (.inl (i64.wrap ((k:Int)+1),t81s))))=
     some (.inl (((k+1:Nat):Int),z.set k (edS m (l.getD k default)))):=by
    intro k hk hb z hz;rw[Zi,Zb hk] at hb ⊢;simp only[Yk] at hb ⊢;rw[QG hk];simp only[Za];rw[Ql4,hb,Zd (by simp)];simp only[badD,Bool.or_eq_false_iff,ZK,beq_eq_false_iff_ne,ne_eq] at hb;obtain⟨⟨⟨⟨⟨⟨a1,a2⟩,a3⟩,a4⟩,a5⟩,a6⟩,a7⟩:=hb;rw[Qn5 (by omega)];simp only[Za];rw[Qtt (by omega) (by omega) (by omega) (by omega),Qtt (by omega) (by omega) (by omega) (by omega),Qgz (by omega)];simp only[Za];rw[Qw (n:=l.length) hk (by omega)];rfl
   by_cases hb:l.any (badD ((m:Int) - 1))=true
   ·have e:Qbb ((m:Int) - 1) l=1:=by unfold Qbb;rw[Zd h1,Zd h2,Zc hb]
    rw[e,Zd (by decide)];obtain⟨k0,hk0,hp0,hmin⟩:=Qur l.length (λk=>badD ((m:Int) - 1) (l.getD k default)) (by obtain⟨x,hx,hp⟩:=Yo.1 hb;obtain⟨k,hk,rfl⟩:=Ye hx;exact⟨k,hk,by rw[Zi,Zb hk];exact hp⟩);refine QdK k0 (λk=>((k:Int),(l.map (edS m)).take k++(replicate l.length (Qaa.mk 0 0 0)).drop k)) (.inr ((1:Int),([]:List Qaa))) (by simp) ?_ ?_ rfl
    ·intro k hk;simp only;rw[Zc (by simp;omega),st k (by omega) (hmin k hk) _ (by simp;omega)];have h2:edS m (l.getD k default)=(l.map (edS m))[k]'(by simp;omega):=by
      rw[Zi,Zb (by omega)];simp
     rw[h2,Qrf _ _ (by simp;omega) (by simp;omega)]
    ·simp only;rw[Zc (by simpa using hk0),QG hk0];simp only[Za];rw[Zi,Zb hk0] at hp0;rw[Ql4,Zc (show badD _ l[k0]=true from hp0)]
   ·have hb':l.any (badD ((m:Int) - 1))=false:=by simpa using hb
    have e:Qbb ((m:Int) - 1) l=0:=by unfold Qbb;rw[Zd h1,Zd h2,Zd hb]
    rw[e,Zc rfl];have hall:∀k,k<l.length->badD ((m:Int) - 1) (l.getD k default)=false:=by intro k hk;rw[any_eq_false] at hb';have:=hb' _ (Zm hk);rw[Zi,Zb hk];simpa using this
    refine QdK l.length (λk=>((k:Int),(l.map (edS m)).take k++(replicate l.length (Qaa.mk 0 0 0)).drop k)) (.inl (l.map (edS m))) (by simp) ?_ ?_ rfl
    ·intro k hk;simp only;rw[Zc (by simpa using hk),st k hk (hall k hk) _ (by simp;omega)];have h2:edS m (l.getD k default)=(l.map (edS m))[k]'(by simpa using hk):=by
      rw[Zi,Zb hk];simp
     rw[h2,Qrf _ _ (by simpa using hk) (by simpa using hk)]
    ·simp only;rw[Zd (by simp)];simp[ZJ]
structure QdY (m:Nat) (l:List QE):Prop where
 m1:1<=m
 m11:m<=11
 len:l.length<=64
 ok:∀d∈l,-1<=d.A/\d.A<(m:Int) - 1/\-1<=d.B/\d.B<(m:Int) - 1/\d.A≠d.B/\-2097152<=d.N/\d.N<=2097152
def Qnh {n:Int} {l:List QE} (h:Qbb n l=0):∃m:Nat,n=(m:Int) - 1/\QdY m l:=by obtain⟨h1,h2,h3,h4⟩:=valid0 h;refine⟨(n+1).toNat,by omega,by omega,by omega,h3,λd hd=>?_⟩;obtain⟨a1,a2,a3,a4,a5,a6,a7⟩:=h4 d hd;exact⟨a1,by omega,a3,by omega,a5,a6,a7⟩
def Qqu {m:Nat} {l:List QE} (hv:QdY m l):∀e∈l.map (edN m),e.a<m/\e.b<m/\e.w<=2097152:=by intro e he;obtain⟨d,hd,rfl⟩:=ZE.1 he;obtain⟨a1,a2,a3,a4,_,_,a7⟩:=hv.ok d hd;exact⟨Qts a1 a2,Qts a3 a4,a7⟩
def Qok {m:Nat} (hm:m<=11):i64.wrap ((m:Int) - 1+1)=(m:Int):=by rw[w64 (by omega) (by omega)];omega
def QwT {m:Nat} (h1:1<=m) (h2:m<=11):Qb3 [(1099511627776:Int)] (m:Int)=some (rowL m λ_=>INF):=by
 have key:∀m:Nat,m<12->1<=m->QeK 20 [(1099511627776:Int)] (m:Int)=some (rowL m λ_=>INF):=by decide+kernel
 exact LeC.le (x:=QeK 20 [(1099511627776:Int)] (m:Int)) _ (key m (by omega) h1)
def Qdm (L r:Nat->Int) (x:Ed):Nat->Int:=if L x.b<INF then upd1 r x.a (imin (r x.a) (i64.wrap (L x.b+x.w))) else r
def lay (a0:Nat) (tl:List Ed):Nat->Nat->Int
 | 0=>upd1 (λ_=>INF) a0 0
 | s+1=>tl.foldl (Qdm (lay a0 tl s)) (λ_=>INF)
def QdD (L:Nat->Int) (sum n:Int) (v:Nat):Bool:=decide (L v<INF)&&decide (i64.wrap (i64.wrap (sum+n)+L v)<0)
abbrev WkB:=Nat×List Int×Int
def inS (E:List Ed) (L:Nat->Int):Nat->Nat->WkB->WkB
 | 0,_,st=>st
 | k+1,i,st=>if ((E.getD i ⟨0,0,0⟩).a==st.1&&QdD L st.2.2 (E.getD i ⟨0,0,0⟩).w (E.getD i ⟨0,0,0⟩).b)=true then ((E.getD i ⟨0,0,0⟩).b,st.2.1++[(i:Int)],i64.wrap (st.2.2+(E.getD i ⟨0,0,0⟩).w)) else inS E L k (i+1) st
def outS (E:List Ed) (Ly:Nat->Nat->Int) (first:Nat):Nat->WkB->WkB
 | 0,st=>st
 | k+1,st=>outS E Ly first k (inS E (Ly k) (E.length - (first+1)) (first+1) st)
def QaS (E:List Ed) (many first:Nat):List Int:=
 if QdD (lay (E.getD first ⟨0,0,0⟩).a (E.drop (first+1)) (many - 1)) (E.getD first ⟨0,0,0⟩).w 0 (E.getD first ⟨0,0,0⟩).b=true then
  (outS E (lay (E.getD first ⟨0,0,0⟩).a (E.drop (first+1))) first (many - 1) ((E.getD first ⟨0,0,0⟩).b,[(first:Int)],(E.getD first ⟨0,0,0⟩).w)).2.1
 else []
def Qhc (f:Nat->List Int):Nat->Nat->Option (List Int)
 | 0,_=>none
 | k+1,i=>if (f i).isEmpty=true then Qhc f k (i+1) else some (f i)
def QdE (f:Nat->Nat->List Int) (len:Nat):Nat->Nat->Option (List Int)
 | 0,_=>none
 | k+1,many=>match Qhc (f many) len 0 with | some p=>some p | none=>QdE f len k (many+1)
def cycS (n:Int) (l:List QE):List Int×Int:=if Qbb n l≠0 then ([],Qbb n l) else match QdE (QaS (l.map (edN (n+1).toNat))) l.length n.toNat 2 with | some p=>(p,0) | none=>([],6)
def Qo6 {E:List Ed} {L:Nat->Int}:∀k i st,st.2.1.length<=(inS E L k i st).2.1.length/\(inS E L k i st).2.1.length<=st.2.1.length+1:=by
 intro k
 induction k with
 | zero=>intro i st;unfold inS;omega
 | succ k ih=>
  intro i st;unfold inS;split
  ·simp
  ·exact ih _ _
def Qni {E:List Ed} {Ly:Nat->Nat->Int} {first:Nat}:∀k st,st.2.1.length<=(outS E Ly first k st).2.1.length/\(outS E Ly first k st).2.1.length<=st.2.1.length+k:=by
 intro k
 induction k with
 | zero=>intro st;unfold outS;omega
 | succ k ih=>intro st;unfold outS;have h1:=Qo6 (E:=E) (L:=Ly k) (E.length - (first+1)) (first+1) st;have h2:=ih (inS E (Ly k) (E.length - (first+1)) (first+1) st);omega
def QwU {α:Type} {k:Nat} {F:Nat->α}:rowL k F++[F k]=rowL (k+1) F:=by unfold rowL;rw[Yl,ZM];rfl
def Qnj {m:Nat} {l:List QE} {i:Nat} (h:i<l.length):idx (l.map (edS m)) (i:Int)=some (edS m l[i]):=by rw[QG (by simpa using h)];simp
def Qk5 {m:Nat} {l:List QE} {i:Nat} (h:i<l.length):(l.map (edN m)).getD i ⟨0,0,0⟩=edN m l[i]:=by rw[Zi,Zb (by simpa using h)];simp
def Qtu {m:Nat} {c0:List (List Int)} {s:Int} {L:Nat->Int} {v:Nat} (n c1:Int) (hs:idx c0 s=some (rowL m L)) (hv:v<m):Qco (v:Int) s n c0 c1=some (QdD L c1 n v):=by
 unfold Qco QdD;rw[hs];simp only[Za];rw[QbI hv];simp only[Za];by_cases h:L v<INF
 ·rw[show (decide (L v<1099511627776)==true)=true by simpa using h];simp only[Qjq,Za];rw[QbI hv];rfl
 ·rw[show (decide (L v<1099511627776)==true)=false by simpa using h];simp only[Qit,Za];have:decide (L v<1099511627776)=false:=by simpa using h
  rw[this];rfl
def QwV (m:Nat) (l:List QE):Prop:=∀d∈l,rowN m d.A<m/\rowN m d.B<m
def Qus {m:Nat} {tl:List QE} (hl:tl.length<1000000) (hin:QwV m tl) {L:Nat->Int} {T:List (List Int)} {s:Int} (hT:idx T s=some (rowL m L)):
  Ql (λ(s201:Int×List Int)=>((if (decide (s201.1<((tl.map (edS m)).length:Int)))=true then (idx (tl.map (edS m)) s201.1).bind λt52=>(idx T s).bind λr223=>(idx r223 (t52).b).bind λt61=>((if (decide (t61<(1099511627776:Int)))=true then (idx s201.2 (t52).a).bind λt71=>(setAt s201.2 (t52).a (imin t71 (i64.wrap (t61+(t52).n)))).bind λt78s=>(some t78s) else (some s201.2))).bind λ(p225:List Int)=>(some (.inl ((i64.wrap (s201.1+(1:Int))),p225))) else (some (.inr s201.2))):Option ((Int×List Int)⊕((List Int))))) ((0:Int),rowL m λ_=>INF)=some (rowL m ((tl.map (edN m)).foldl (Qdm L) λ_=>INF)):=by
 refine Qb9 tl.length (λk=>((k:Int),rowL m (((tl.take k).map (edN m)).foldl (Qdm L) λ_=>INF))) _ ?_ ?_
 ·intro k hk;simp only;obtain⟨ha,hb⟩:=hin _ (Zm hk);rw[Zc (by simpa using hk),Qnj hk];simp only[Za,edS];rw[hT];simp only[Za];rw[QbI hb];simp only[Za];rw[Qw hk (by omega),Zy hk,ZM,foldl_append];generalize ((tl.take k).map (edN m)).foldl (Qdm L) (λ_=>INF)=r;simp only[Yi,Yx,foldl_cons,foldl_nil];unfold Qdm edN;simp only;by_cases h:L (rowN m tl[k].B)<INF
  ·rw[Zc h,Zc (by simpa using h),QbI ha];simp only[Za];rw[QfE ha];rfl
  ·rw[Zd h,Zd (by simpa using h)];rfl
 ·rw[Zd (by simp),take_length]
def QrF {m:Nat} {l:List QE} {i:Nat}:(l.map (edN m)).drop i=(l.drop i).map (edN m):=by rw[map_drop]
def QyW {m:Nat} {l:List QE} (hv:QdY m l) {first many:Nat} (hf:first<l.length) (h2:2<=many) (hm:many<=m):
  QdJ ((m:Int) - 1) (l.map (edS m)) (first:Int) (many:Int)=some (QaS (l.map (edN m)) many first):=by
 have hm11:=hv.m11;have hlen:=hv.len;have hin:QwV m l:=λd hd=>by have h:=Qqu hv (edN m d) (ZZ hd);exact⟨h.1,h.2.1⟩
 unfold QdJ QaS;obtain⟨ha,hb⟩:=hin _ (Zm hf);rw[Qok hm11,QwT hv.m1 hm11,Qk5 hf,QrF];simp only[Za];generalize hLy:lay (edN m l[first]).a ((l.drop (first+1)).map (edN m))=Ly;have e0B:idx [rowL m λ_=>INF] (0:Int)=some (rowL m λ_=>INF):=rfl;rw[e0B,Qnj hf];simp only[Za,edS];rw[QfE ha];simp only[Za];have e1:setAt [rowL m λ_=>INF] (0:Int) (rowL m (upd1 (λ_=>INF) (rowN m l[first].A) 0))=some (rowL 1 λq=>rowL m (Ly q)):=by rw[<-hLy];rfl
 rw[e1];simp only[Za];refine QdK (many - 1) (λk=>(((k+1:Nat):Int),rowL (k+1) λq=>rowL m (Ly q))) (rowL many λq=>rowL m (Ly q)) rfl ?_ ?_ ?_
 ·intro k hk;simp only;rw[Zc (by simp;omega)];have e3:sub (l.map (edS m)) (i64.wrap ((first:Int)+1)) ((l.map (edS m)).length:Int)=some ((l.drop (first+1)).map (edS m)):=by
   rw[w64 (by omega) (by omega)];unfold sub;rw[Zc (by simp;omega),show ((first:Int)+1).toNat=first+1 by omega,ZJ (by simp),map_drop]
  rw[e3];simp only[Za];have e4:idx (rowL (k+1) λq=>rowL m (Ly q)) (i64.wrap (((k+1:Nat):Int) - 1))=some (rowL m (Ly k)):=by rw[w64 (by omega) (by omega),show ((k+1:Nat):Int) - 1=(k:Int) by omega,QbI (by omega)]
  rw[Qus (by simp;omega) (λd hd=>hin d (mem_of_mem_drop hd)) e4];simp only[Za];rw[QaW (by rw[Qng];omega)];simp only[Za];have e5:((l.drop (first+1)).map (edN m)).foldl (Qdm (Ly k)) (λ_=>INF)=Ly (k+1):=by rw[<-hLy];rfl
  rw[e5,Qw (n:=many) (by omega) (by omega)];have:=QwU (k:=k+1) (F:=λq=>rowL m (Ly q));rw[this]
 ·rw[Zd (by simp;omega),show many - 1+1=many by omega]
 ·have e6:idx (rowL many λq=>rowL m (Ly q)) (i64.wrap ((many:Int) - 1))=some (rowL m (Ly (many - 1))):=by
   rw[w64 (by omega) (by omega),show (many:Int) - 1=((many - 1:Nat):Int) by omega,QbI (by omega)]
  rw[Qtu _ _ e6 hb];simp only[Za];by_cases hg:QdD (Ly (many - 1)) l[first].N 0 (rowN m l[first].B)=true
  ·rw[hg];rw[Zd (by simp),Zc (by simpa[edN] using hg)];have inn:∀(L:Nat->Int) (s:Int),idx (rowL many λq=>rowL m (Ly q)) s=some (rowL m L)->∀(k i:Nat) (st:WkB),i+k=l.length->st.2.1.length<=100->
     (Ql (λ(s165:Int)=>((if (decide (s165<((l.map (edS m)).length:Int)))=true then (idx (l.map (edS m)) s165).bind λt119=>(opt (((t119).a==(st.1:Int))==true) (Qco (t119).b s (t119).n (rowL many λq=>rowL m (Ly q)) st.2.2) default).bind λt132=>(if (((t119).a==(st.1:Int))&&t132)=true then (rm (st.2.1.length+[s165].length)).bind λ_=>(some (.inr (.inr ((t119).b,(st.2.1++[s165]),(i64.wrap (st.2.2+(t119).n)))))) else (some (.inl (i64.wrap (s165+(1:Int)))))) else (some (.inr (.inl ())))):Option ((Int)⊕((Unit)⊕(Int×List Int×Int))))) (i:Int)).bind (λ(e167:(Unit)⊕(Int×List Int×Int))=>(match e167 with | .inl _=>(some ((st.1:Int),st.2.1,st.2.2)) | .inr p179=>(some (p179.1,p179.2.1,p179.2.2))))=
     some (((inS (l.map (edN m)) L k i st).1:Int),(inS (l.map (edN m)) L k i st).2.1,(inS (l.map (edN m)) L k i st).2.2):=by
    intro L s hs k
    induction k with
    | zero=>intro i st hi _;rw[Qac];rw[Zd (by simp;omega)];rfl
    | succ k ih=>
     intro i st hi hst;have hil:i<l.length:=by omega
     obtain⟨ha,hb⟩:=hin _ (Zm hil);rw[Qac];rw[Zc (by simpa using hil),Qnj hil];simp only[Za,edS];unfold inS;rw[Qk5 hil,Qtu _ _ hs hb];have ea:(((rowN m l[i].A:Nat):Int)==(st.1:Int))=((edN m l[i]).a==st.1):=by rw[ZY];simp only[edN,Yd];omega
     rw[ea];by_cases hc:((edN m l[i]).a==st.1)=true
     ·rw[hc];simp only[BEq.rfl,Qjq,Za,Bool.true_and];by_cases hg:QdD L st.2.2 l[i].N (rowN m l[i].B)=true
      ·rw[Zc hg,Zc (by simpa[edN] using hg),QaW (by simp;omega)];rfl
      ·rw[Zd hg,Zd (by simpa[edN] using hg)];simp only;rw[Qw hil (by omega)];exact ih (i+1) st (by omega) hst
     ·have hc':((edN m l[i]).a==st.1)=false:=by simpa using hc
      rw[hc'];simp only[show (false==true)=false from rfl,Qit,Za,Bool.false_and,ZL,if_false];rw[Qw hil (by omega)];exact ih (i+1) st (by omega) hst
   have out:∀(k:Nat) (st:WkB),k<many->st.2.1.length+k<=100->
     Ql (λ(s65:Int×Int×List Int×Int)=>((if (decide (s65.1>=(0:Int)))=true then ((Ql (λ(s165:Int)=>((if (decide (s165<((l.map (edS m)).length:Int)))=true then (idx (l.map (edS m)) s165).bind λt119=>(opt (((t119).a==s65.2.1)==true) (Qco (t119).b s65.1 (t119).n (rowL many λq=>rowL m (Ly q)) s65.2.2.2) default).bind λt132=>(if (((t119).a==s65.2.1)&&t132)=true then (rm (s65.2.2.1.length+[s165].length)).bind λ_=>(some (.inr (.inr ((t119).b,(s65.2.2.1++[s165]),(i64.wrap (s65.2.2.2+(t119).n)))))) else (some (.inl (i64.wrap (s165+(1:Int)))))) else (some (.inr (.inl ())))):Option ((Int)⊕((Unit)⊕(Int×List Int×Int))))) (i64.wrap ((first:Int)+(1:Int)))).bind λ(e167:(Unit)⊕(Int×List Int×Int))=>(match e167 with | .inl _=>(some (s65.2.1,s65.2.2.1,s65.2.2.2)) | .inr p179=>(some (p179.1,p179.2.1,p179.2.2)))).bind λ(p135:Int×List Int×Int)=>(some (.inl ((i64.wrap (s65.1 - (1:Int))),p135.1,p135.2.1,p135.2.2))) else (some (.inr s65.2.2.1))):Option ((Int×Int×List Int×Int)⊕((List Int)))))
      ((k:Int) - 1,(st.1:Int),st.2.1,st.2.2)=some (outS (l.map (edN m)) Ly first k st).2.1:=by
    intro k
    induction k with
    | zero=>intro st _ _;rw[Qac];simp only;rw[Zd (by simp)];rfl
    | succ k ih=>
     intro st hk hst;have e7:idx (rowL many λq=>rowL m (Ly q)) (((k+1:Nat):Int) - 1)=some (rowL m (Ly k)):=by rw[show ((k+1:Nat):Int) - 1=(k:Int) by omega,QbI (by omega)]
     have e8:=inn (Ly k) (((k+1:Nat):Int) - 1) e7 (l.length - (first+1)) (first+1) st (by omega) (by omega);have hlen:=Qo6 (E:=l.map (edN m)) (L:=Ly k) (l.length - (first+1)) (first+1) st;rw[Qac];simp only;rw[<-Qw (n:=l.length) (k:=first) (by omega) (by omega)] at e8;rw[Zc (by simp),e8];simp only[Za];rw[w64 (n:=((k+1:Nat):Int) - 1 - 1) (by omega) (by omega),show ((k+1:Nat):Int) - 1 - 1=(k:Int) - 1 by omega];refine (ih (inS (l.map (edN m)) (Ly k) (l.length - (first+1)) (first+1) st) (by omega) (by omega)).trans ?_
     conv=>rhs;unfold outS
     rw[Zz]
   have e9:=out (many - 1) (rowN m l[first].B,[(first:Int)],l[first].N) (by omega) (by simp;omega);rw[show ((many - 1:Nat):Int) - 1=i64.wrap ((many:Int) - 2) by rw[w64 (by omega) (by omega)];omega] at e9;simp only at e9;refine (ZH (Option.bind · _) e9).trans ?_;simp only[Za];have hne:=(Qni (E:=l.map (edN m)) (Ly:=Ly) (first:=first) (many - 1) (rowN m l[first].B,[(first:Int)],l[first].N)).1;have:ne (outS (l.map (edN m)) Ly first (many - 1) (rowN m l[first].B,[(first:Int)],l[first].N)).2.1=some ():=by
    cases h:(outS (l.map (edN m)) Ly first (many - 1) (rowN m l[first].B,[(first:Int)],l[first].N)).2.1 with
    | nil=>rw[h] at hne;simp at hne
    | cons _ _=>rfl
   rw[this];rfl
  ·have hg':QdD (Ly (many - 1)) l[first].N 0 (rowN m l[first].B)=false:=by simpa using hg
   rw[hg',Zc (by simp),Zd (by simpa[edN] using hg)]
def Qtv {α:Type} {F:Nat->α} {k q:Nat} {v:α}:upd1 F k v q=if q=k then v else F q:=rfl
def QyX {m M k:Nat} (hk:k<M) (hm:m<1000000) (F:Nat->List Int):
  Ql (λ(s224:Int×List (List Int))=>((if (decide (s224.1<=(m:Int) - 1))=true then (idx s224.2 (k:Int)).bind λr282=>(setAt r282 s224.1 (1099511627776:Int)).bind λt41s=>(setAt s224.2 (k:Int) t41s).bind λm283=>(some (.inl ((i64.wrap (s224.1+(1:Int))),m283))) else (some (.inr s224.2))):Option ((Int×List (List Int))⊕((List (List Int)))))) ((0:Int),rowL M (upd1 F k (rowL m λ_=>0)))=some (rowL M (upd1 F k (rowL m λ_=>INF))):=by
 have h:=Qb9 (body:=(λ(s224:Int×List (List Int))=>((if (decide (s224.1<=(m:Int) - 1))=true then (idx s224.2 (k:Int)).bind λr282=>(setAt r282 s224.1 (1099511627776:Int)).bind λt41s=>(setAt s224.2 (k:Int) t41s).bind λm283=>(some (.inl ((i64.wrap (s224.1+(1:Int))),m283))) else (some (.inr s224.2))):Option ((Int×List (List Int))⊕((List (List Int))))))) m
  (λj=>((j:Int),rowL M (upd1 F k (rowL m λq=>if q<j then INF else 0)))) (rowL M (upd1 F k (rowL m λ_=>INF))) ?_ ?_
 ·simpa using h
 ·intro j hj;simp only;rw[Zc (by simp;omega),QbI hk];simp only[Za,QiD];rw[QfE hj];simp only[Za];rw[QfE hk,Ql3];simp only[Za];rw[Qw hj (by omega)];congr 5;refine QiW λq _=>?_;rw[Qtv];by_cases h:q=j
  ·rw[Zc h,Zc (by omega)]
  ·rw[Zd h];by_cases h2:q<j
   ·rw[Zc h2,Zc (by omega)]
   ·rw[Zd h2,Zd (by omega)]
 ·simp only;rw[Zd (by simp;omega)];congr 4;exact QiW λq hq=>by rw[Zc hq]
def Qsx {m M k first:Nat} {l:List QE} (hm:m<=11) (hk:k+1<M) (hM:M<1000000) (hl:l.length<1000000) (hf:first<l.length) (hin:∀d∈l,-1<=d.A/\d.A<(m:Int) - 1/\-1<=d.B/\d.B<(m:Int) - 1/\rowN m d.A<m/\rowN m d.B<m) (L:Nat->Int) (F:Nat->List Int) (hF:F k=rowL m L):
  Ql (λ(s239:Int×List (List Int))=>((if (decide (s239.1<(l.length:Int)))=true then (idx l s239.1).bind λt60=>(QaQ ((m:Int) - 1) (t60).A).bind λt63=>(idx l s239.1).bind λt67=>(QaQ ((m:Int) - 1) (t67).B).bind λt70=>(idx s239.2 (i64.wrap (((k+1:Nat):Int) - (1:Int)))).bind λr266=>(idx r266 t70).bind λt77=>((if (decide (t77<(1099511627776:Int)))=true then (idx s239.2 ((k+1:Nat):Int)).bind λr272=>(idx r272 t63).bind λt90=>(idx l s239.1).bind λt94=>(idx s239.2 (i64.wrap (((k+1:Nat):Int) - (1:Int)))).bind λr273=>(idx r273 t70).bind λt103=>(setAt r272 t63 (imin t90 (i64.wrap ((t94).N+t103)))).bind λt107s=>(setAt s239.2 ((k+1:Nat):Int) t107s).bind λm274=>(some m274) else (some s239.2))).bind λ(p267:List (List Int))=>(some (.inl ((i64.wrap (s239.1+(1:Int))),p267))) else (some (.inr s239.2))):Option ((Int×List (List Int))⊕((List (List Int)))))) ((i64.wrap ((first:Int)+(1:Int))),rowL M (upd1 F (k+1) (rowL m λ_=>INF)))=some (rowL M (upd1 F (k+1) (rowL m (((l.drop (first+1)).map (edN m)).foldl (Qdm L) λ_=>INF)))):=by
 have hw:i64.wrap (((k+1:Nat):Int) - 1)=(k:Int):=by rw[w64 (by omega) (by omega)];omega
 rw[hw,Qw hf (by omega)];refine Qb9 (l.length - (first+1)) (λj=>(((first+1+j:Nat):Int),rowL M (upd1 F (k+1) (rowL m ((((l.drop (first+1)).take j).map (edN m)).foldl (Qdm L) λ_=>INF))))) _ ?_ ?_
 ·intro j hj;simp only;have hi:first+1+j<l.length:=by omega
  obtain⟨a1,a2,b1,b2,ha,hb⟩:=hin _ (Zm hi);rw[Zc (by simp;omega),QG hi];simp only[Za];rw[Qje a1 a2,Qje b1 b2];simp only[Za];have e1:∀R,idx (rowL M (upd1 F (k+1) R)) (k:Int)=some (rowL m L):=λR=>by rw[QbI (by omega),QCz (by omega),hF]
  have e2:∀R,idx (rowL M (upd1 F (k+1) R)) ((k+1:Nat):Int)=some R:=λR=>by rw[QbI hk,QiD]
  rw[e1];simp only[Za];rw[QbI hb];simp only[Za];have hdl:j<(l.drop (first+1)).length:=by simp;omega
  rw[Qw hi (by omega),Zy hdl,ZM,foldl_append];generalize (((l.drop (first+1)).take j).map (edN m)).foldl (Qdm L) (λ_=>INF)=r;simp only[Yi,Yx,foldl_cons,foldl_nil,getElem_drop];unfold Qdm edN;simp only;by_cases h:L (rowN m l[first+1+j].B)<INF
  ·rw[Zc h,Zc (by simpa using h),e2];simp only[Za];rw[QbI ha];simp only[Za];rw[QfE ha];simp only[Za];rw[QfE hk,Ql3,Int.add_comm];rfl
  ·rw[Zd h,Zd (by simpa using h)];rfl
 ·simp only;rw[Zd (by simp;omega),ZJ (by simp)]
def QCA {m:Nat} {l:List QE} (hv:QdY m l) {first to most:Nat} (hf:first<l.length) (ht:to<m) (hm:most<=m):
  Qf2 ((m:Int) - 1) l (first:Int) (to:Int) (most:Int)=some (rowL (most+1) λq=>rowL m (lay to ((l.drop (first+1)).map (edN m)) q)):=by
 have hm11:=hv.m11;have hlen:=hv.len;have hin:∀d∈l,-1<=d.A/\d.A<(m:Int) - 1/\-1<=d.B/\d.B<(m:Int) - 1/\rowN m d.A<m/\rowN m d.B<m:=λd hd=>by have h:=Qqu hv (edN m d) (ZZ hd);have g:=hv.ok d hd;exact⟨g.1,g.2.1,g.2.2.1,g.2.2.2.1,h.1,h.2.1⟩
 unfold Qf2;rw[Qw (n:=most+1) (k:=most) (by omega) (by omega),Qis _ _ (by omega)];simp only[Za];generalize hLy:lay to ((l.drop (first+1)).map (edN m))=Ly;refine QdK (most+1) (λk=>((k:Int),rowL (most+1) λq=>if q<k then rowL m (Ly q) else [])) (rowL (most+1) λq=>rowL m (Ly q)) ?_ ?_ ?_ rfl
 ·simp only[Nat.not_lt_zero,if_false];rw[QrE];rfl
 ·intro k hk;simp only;rw[Zc (by simp;omega),Qok hm11,Qis _ _ (by omega)];simp only[Za];rw[QfE hk];simp only[Za];rw[<-QrE,QyX hk (by omega)];simp only[Za];have fin:∀R:List Int,R=rowL m (Ly k)->rowL (most+1) (upd1 (λq=>if q<k then rowL m (Ly q) else []) k R)=rowL (most+1) λq=>if q<k+1 then rowL m (Ly q) else []:=by
   rintro R rfl;refine QiW λq _=>?_;rw[Qtv];by_cases h:q=k
   ·rw[Zc h,Zc (by omega),h]
   ·rw[Zd h];by_cases h2:q<k
    ·rw[Zc h2,Zc (by omega)]
    ·rw[Zd h2,Zd (by omega)]
  rw[Qw hk (by omega)]
  cases k with
  | zero=>
   rw[Zc (by rfl)];have e1:idx (rowL (most+1) (upd1 (λq=>if q<0 then rowL m (Ly q) else []) 0 (rowL m λ_=>INF))) ((0:Nat):Int)=some (rowL m λ_=>INF):=by rw[QbI hk,QiD]
   rw[show ((0:Nat):Int)=0 from rfl] at e1;rw[e1];simp only[Za];rw[QfE ht];simp only[Za];have e2:=QfE (R:=upd1 (λq=>if q<0 then rowL m (Ly q) else []) 0 (rowL m λ_=>INF)) hk (rowL m (upd1 (λ_=>INF) to 0));rw[show ((0:Nat):Int)=0 from rfl] at e2;rw[e2];simp only[Za];rw[Ql3,fin _ (by rw[<-hLy];rfl)]
  | succ k=>rw[Zd (by simp;omega)];rw[Qsx hm11 hk (by omega) (by omega) hf hin (Ly k) (λq=>if q<k+1 then rowL m (Ly q) else []) (Zc (by omega))];simp only[Za];rw[fin _ (by rw[<-hLy];rfl)]
 ·simp only;rw[Zd (by simp;omega)];congr 2;exact QiW λq hq=>by rw[Zc hq]
def Qju {E:List Ed} {many first:Nat}:(QaS E many first).isEmpty=!QdD (lay (E.getD first ⟨0,0,0⟩).a (E.drop (first+1)) (many - 1)) (E.getD first ⟨0,0,0⟩).w 0 (E.getD first ⟨0,0,0⟩).b:=by
 unfold QaS;split
 ·next h=>
  rw[h];have hne:=(Qni (E:=E) (Ly:=lay (E.getD first ⟨0,0,0⟩).a (E.drop (first+1))) (first:=first) (many - 1) ((E.getD first ⟨0,0,0⟩).b,[(first:Int)],(E.getD first ⟨0,0,0⟩).w)).1
  cases h:(outS E (lay (E.getD first ⟨0,0,0⟩).a (E.drop (first+1))) first (many - 1) ((E.getD first ⟨0,0,0⟩).b,[(first:Int)],(E.getD first ⟨0,0,0⟩).w)).2.1 with
  | nil=>rw[h] at hne;simp at hne
  | cons _ _=>rfl
 ·next h=>rw[Bool.not_eq_true] at h;rw[h];rfl
def QwW {m:Nat} {l:List QE} (hv:QdY m l) {many:Nat} (h2:2<=many) (hm:many<=m):∀(k i:Nat),i+k=l.length->
  Ql (λ(s46:Int)=>((if (decide (s46<((l.map (edS m)).length:Int)))=true then (QdJ ((m:Int) - 1) (l.map (edS m)) s46 (many:Int)).bind λt35=>(if (!t35.isEmpty)=true then (some (.inr (.inr (t35,(0:Int))))) else (some (.inl (i64.wrap (s46+(1:Int)))))) else (some (.inr (.inl ())))):Option ((Int)⊕((Unit)⊕((List Int)×Int))))) (i:Int)=
   some (match Qhc (QaS (l.map (edN m)) many) k i with | some p=>.inr (p,0) | none=>.inl ()):=by
 have hlen:=hv.len;intro k
 induction k with
 | zero=>intro i hi;rw[Qac];rw[Zd (by simp;omega)];rfl
 | succ k ih=>
  intro i hi;rw[Qac];rw[Zc (by simp;omega),QyW hv (by omega) h2 hm];simp only[Za];unfold Qhc
  cases h:(QaS (l.map (edN m)) many i).isEmpty with
  | true=>simp only[Bool.not_true,ZL,if_false,if_true];rw[Qw (n:=l.length) (by omega) (by omega)];exact ih (i+1) (by omega)
  | false=>simp only[Bool.not_false,if_true,ZL,if_false]
def cyc_is (n:Int) (l:List QE):QfT n l=some (cycS n l):=by
 unfold QfT cycS;rw[QyV];simp only[Za];by_cases h:Qbb n l=0
 ·obtain⟨m,rfl,hv⟩:=Qnh h;have hm11:=hv.m11;have hm1:=hv.m1;rw[Zc h,Zd (by simp[h])];have hn:¬(Qbb ((m:Int) - 1) l≠0):=λg=>g h;rw[Zd hn,show ((m:Int) - 1+1).toNat=m by omega,show ((m:Int) - 1).toNat=m - 1 by omega,Qok hm11];have key:∀(k many:Nat),2<=many->many+k=m+1->Ql (λ(s8:Int)=>((if (decide (s8<=(m:Int)))=true then (Ql (λ(s46:Int)=>((if (decide (s46<((l.map (edS m)).length:Int)))=true then (QdJ ((m:Int) - 1) (l.map (edS m)) s46 s8).bind λt35=>(if (!t35.isEmpty)=true then (some (.inr (.inr (t35,(0:Int))))) else (some (.inl (i64.wrap (s46+(1:Int)))))) else (some (.inr (.inl ())))):Option ((Int)⊕((Unit)⊕((List Int)×Int))))) (0:Int)).bind λ(e47:(Unit)⊕((List Int)×Int))=>(match e47 with | .inl p57=>(some (.inl (i64.wrap (s8+(1:Int))))) | .inr p58=>(some (.inr (.inr (p58.1,p58.2))))) else (some (.inr (.inl ())))):Option ((Int)⊕((Unit)⊕((List Int)×Int))))) (many:Int)=
    some (match QdE (QaS (l.map (edN m))) l.length k many with | some p=>.inr (p,0) | none=>.inl ()):=by
   intro k
   induction k with
   | zero=>intro many h2 hk;rw[Qac];rw[Zd (by simp;omega)];rfl
   | succ k ih=>
    intro many h2 hk;rw[Qac];have hin:=QwW hv h2 (show many<=m by omega) l.length 0 (by omega);rw[show ((0:Nat):Int)=0 from rfl] at hin;rw[Zc (by simp;omega),hin];simp only[Za];unfold QdE
    cases hs:Qhc (QaS (l.map (edN m)) many) l.length 0 with
    | some p=>rfl
    | none=>simp only;rw[Qw (n:=m+1) (k:=many) (by omega) (by omega)];exact ih (many+1) (by omega) (by omega)
  have h2:=key (m - 1) 2 (by omega) (by omega);rw[show ((2:Nat):Int)=2 from rfl] at h2;refine (ZH (Option.bind · _) h2).trans ?_;simp only[Za];cases QdE (QaS (l.map (edN m))) l.length (m - 1) 2<;>rfl
 ·rw[Zd h,Zc h];simp only;rw[Zc (by simpa using h)]
def Qjv (m:Nat) (l:List QE) (s8 s196:Int):Option ((Int)⊕((Unit)⊕(Int×List Int))):=(idx l s196).bind λt40=>(QaQ ((m:Int) - 1) (t40).A).bind λt43=>(Qf2 ((m:Int) - 1) l s196 t43 (i64.wrap (s8 - (1:Int)))).bind λt46=>(idx l s196).bind λt50=>(QaQ ((m:Int) - 1) (t50).B).bind λt53=>(idx l s196).bind λt56=>(idx t46 (i64.wrap (s8 - (1:Int)))).bind λt62=>(idx t62 t53).bind λt65=>(opt ((decide (t65>=(1099511627776:Int)))==false) (idx t46 (i64.wrap (s8 - (1:Int)))) default).bind λt73=>(opt ((decide (t65>=(1099511627776:Int)))==false) (idx t73 t53) default).bind λt76=>(if ((decide (t65>=(1099511627776:Int)))||(decide ((i64.wrap ((t56).N+t76))>=(0:Int))))=true then (some (.inl (i64.wrap (s196+(1:Int))))) else (Ql (λ(s297:Int×Int×Int×List Int)=>((if (decide (s297.1>=(0:Int)))=true then (Ql (λ(s339:Int)=>((if (decide (s339<(l.length:Int)))=true then (idx l s339).bind λt100=>(QaQ ((m:Int) - 1) (t100).B).bind λt103=>(idx l s339).bind λt107=>(QaQ ((m:Int) - 1) (t107).A).bind λt110=>(opt ((t110==s297.2.2.1)==true) (idx t46 s297.1) default).bind λt116=>(opt ((t110==s297.2.2.1)==true) (idx t116 t103) default).bind λt119=>(opt (((t110==s297.2.2.1)&&(decide (t119<(1099511627776:Int))))==true) (idx l s339) default).bind λt127=>(opt (((t110==s297.2.2.1)&&(decide (t119<(1099511627776:Int))))==true) (idx t46 s297.1) default).bind λt133=>(opt (((t110==s297.2.2.1)&&(decide (t119<(1099511627776:Int))))==true) (idx t133 t103) default).bind λt136=>(if (((t110==s297.2.2.1)&&(decide (t119<(1099511627776:Int))))&&(decide ((i64.wrap ((i64.wrap (s297.2.1+(t127).N))+t136))<(0:Int))))=true then (rm (s297.2.2.2.length+[s339].length)).bind λ_=>(idx l s339).bind λt148=>(some (.inr (t103,(i64.wrap (s297.2.1+(t148).N)),(s297.2.2.2++[s339])))) else (some (.inl (i64.wrap (s339+(1:Int)))))) else (some (.inr (s297.2.2.1,s297.2.1,s297.2.2.2)))):Option ((Int)⊕((Int×Int×List Int))))) (i64.wrap (s196+(1:Int)))).bind λ(p352:(Int×Int×List Int))=>(some (.inl ((i64.wrap (s297.1 - (1:Int))),p352.2.1,p352.1,p352.2.2))) else (some (.inr s297.2.2.2))):Option ((Int×Int×Int×List Int)⊕((List Int))))) ((i64.wrap (s8 - (2:Int))),(t56).N,t53,[s196])).bind λ(p331:(List Int))=>(some (.inr (.inr ((0:Int),p331)))))
def QwX {m:Nat} {l:List QE} (hv:QdY m l) {first many:Nat} (hf:first<l.length) (h2:2<=many) (hm:many<=m):
  Qjv m l (many:Int) (first:Int)=some (if (QaS (l.map (edN m)) many first).isEmpty=true then .inl ((first+1:Nat):Int) else .inr (.inr (0,QaS (l.map (edN m)) many first))):=by
 have hm11:=hv.m11;have hlen:=hv.len;have hin:∀d∈l,(-1<=d.A/\d.A<(m:Int) - 1/\-1<=d.B/\d.B<(m:Int) - 1/\-2097152<=d.N/\d.N<=2097152)/\rowN m d.A<m/\rowN m d.B<m:=λd hd=>by have h:=Qqu hv (edN m d) (ZZ hd);have g:=hv.ok d hd;exact⟨⟨g.1,g.2.1,g.2.2.1,g.2.2.2.1,g.2.2.2.2.2⟩,h.1,h.2.1⟩
 rw[Qju];unfold Qjv QaS;rw[Qk5 hf,QrF];obtain⟨⟨a1,a2,b1,b2,n1,n2⟩,ha,hb⟩:=hin _ (Zm hf);rw[QG hf];simp only[Za];rw[Qje a1 a2,Qje b1 b2];simp only[Za];rw[show i64.wrap ((many:Int) - 1)=((many - 1:Nat):Int) by rw[w64 (by omega) (by omega)];omega];rw[QCA hv hf ha (show many - 1<=m by omega)];simp only[Za];rw[show (edN m l[first]).a=rowN m l[first].A from rfl,show (edN m l[first]).b=rowN m l[first].B from rfl,show (edN m l[first]).w=l[first].N from rfl];generalize lay (rowN m l[first].A) ((l.drop (first+1)).map (edN m))=Ly;have row:∀q,q<=many - 1->idx (rowL (many - 1+1) λq=>rowL m (Ly q)) (q:Int)=some (rowL m (Ly q)):=λq hq=>by rw[QbI (by omega)]
 rw[row _ (ZB _)];simp only[Za];rw[QbI hb];simp only[Za];by_cases hL:Ly (many - 1) (rowN m l[first].B)<INF
 ·have hL':decide (Ly (many - 1) (rowN m l[first].B)>=(1099511627776:Int))=false:=by simpa using hL
  rw[hL'];simp only[BEq.rfl,Qjq,Za,Bool.false_or];rw[QbI hb];simp only[Za];have hg:QdD (Ly (many - 1)) l[first].N 0 (rowN m l[first].B)=!decide (i64.wrap (l[first].N+Ly (many - 1) (rowN m l[first].B))>=0):=by unfold QdD;rw[show l[first].N+0=l[first].N by omega,w64 (n:=l[first].N) (by omega) (by omega),show decide (Ly (many - 1) (rowN m l[first].B)<INF)=true by simpa using hL,Bool.true_and,<-decide_not];congr 1;rw[Int.not_le]
  rw[hg];by_cases hc:decide (i64.wrap (l[first].N+Ly (many - 1) (rowN m l[first].B))>=0)=true
  ·rw[hc];simp only[if_true,Bool.not_true,Bool.not_false];rw[Qw hf (by omega)]
  ·have hc':decide (i64.wrap (l[first].N+Ly (many - 1) (rowN m l[first].B))>=0)=false:=by simpa using hc
   rw[hc'];simp only[ZL,if_false,Bool.not_true,Bool.not_false,if_true];have inn:∀(k0:Nat),k0<=many - 1->∀(k i:Nat) (st:WkB),i+k=l.length->st.2.1.length<=100->
     Ql (λ(s339:Int)=>((if (decide (s339<(l.length:Int)))=true then (idx l s339).bind λt100=>(QaQ ((m:Int) - 1) (t100).B).bind λt103=>(idx l s339).bind λt107=>(QaQ ((m:Int) - 1) (t107).A).bind λt110=>(opt ((t110==(st.1:Int))==true) (idx (rowL (many - 1+1) λq=>rowL m (Ly q)) (k0:Int)) default).bind λt116=>(opt ((t110==(st.1:Int))==true) (idx t116 t103) default).bind λt119=>(opt (((t110==(st.1:Int))&&(decide (t119<(1099511627776:Int))))==true) (idx l s339) default).bind λt127=>(opt (((t110==(st.1:Int))&&(decide (t119<(1099511627776:Int))))==true) (idx (rowL (many - 1+1) λq=>rowL m (Ly q)) (k0:Int)) default).bind λt133=>(opt (((t110==(st.1:Int))&&(decide (t119<(1099511627776:Int))))==true) (idx t133 t103) default).bind λt136=>(if (((t110==(st.1:Int))&&(decide (t119<(1099511627776:Int))))&&(decide ((i64.wrap ((i64.wrap (st.2.2+(t127).N))+t136))<(0:Int))))=true then (rm (st.2.1.length+[s339].length)).bind λ_=>(idx l s339).bind λt148=>(some (.inr (t103,(i64.wrap (st.2.2+(t148).N)),(st.2.1++[s339])))) else (some (.inl (i64.wrap (s339+(1:Int)))))) else (some (.inr ((st.1:Int),st.2.2,st.2.1)))):Option ((Int)⊕((Int×Int×List Int))))) (i:Int)=
     some (((inS (l.map (edN m)) (Ly k0) k i st).1:Int),(inS (l.map (edN m)) (Ly k0) k i st).2.2,(inS (l.map (edN m)) (Ly k0) k i st).2.1):=by
    intro k0 hk0;rw[row k0 hk0];intro k
    induction k with
    | zero=>intro i st hi _;rw[Qac];rw[Zd (by simp;omega)];rfl
    | succ k ih=>
     intro i st hi hst;have hil:i<l.length:=by omega
     obtain⟨⟨a1,a2,b1,b2,n1,n2⟩,ha,hb⟩:=hin _ (Zm hil);rw[Qac];rw[Zc (by simpa using hil),QG hil];simp only[Za];rw[Qje a1 a2,Qje b1 b2];simp only[Za];unfold inS;rw[Qk5 hil];have ea:(((rowN m l[i].A:Nat):Int)==(st.1:Int))=((edN m l[i]).a==st.1):=by rw[ZY];simp only[edN,Yd];omega
     rw[ea];rw[show (edN m l[i]).b=rowN m l[i].B from rfl,show (edN m l[i]).w=l[i].N from rfl]
     cases hc:(edN m l[i]).a==st.1 with
     | true=>
      simp only[BEq.rfl,Qjq,Za,Bool.true_and];rw[QbI hb];simp only[Za];unfold QdD
      cases hd:decide (Ly k0 (rowN m l[i].B)<INF) with
      | true=>
       simp only[BEq.rfl,Qjq,Za,Bool.true_and];rw[QbI hb];simp only[Za];by_cases hg:decide (i64.wrap (i64.wrap (st.2.2+l[i].N)+Ly k0 (rowN m l[i].B))<0)=true
       ·rw[Zc hg,Zc hg,QaW (by simp;omega)];rfl
       ·rw[Zd hg,Zd hg];simp only;rw[Qw hil (by omega)];exact ih (i+1) st (by omega) hst
      | false=>simp only[show (false==true)=false from rfl,Qit,Za,Bool.false_and,ZL,if_false];rw[Qw hil (by omega)];exact ih (i+1) st (by omega) hst
     | false=>simp only[show (false==true)=false from rfl,Qit,Za,Bool.false_and,ZL,if_false];rw[Qw hil (by omega)];exact ih (i+1) st (by omega) hst
   have out:∀(k:Nat) (st:WkB),k<many->st.2.1.length+k<=100->
     Ql (λ(s297:Int×Int×Int×List Int)=>((if (decide (s297.1>=(0:Int)))=true then (Ql (λ(s339:Int)=>((if (decide (s339<(l.length:Int)))=true then (idx l s339).bind λt100=>(QaQ ((m:Int) - 1) (t100).B).bind λt103=>(idx l s339).bind λt107=>(QaQ ((m:Int) - 1) (t107).A).bind λt110=>(opt ((t110==s297.2.2.1)==true) (idx (rowL (many - 1+1) λq=>rowL m (Ly q)) s297.1) default).bind λt116=>(opt ((t110==s297.2.2.1)==true) (idx t116 t103) default).bind λt119=>(opt (((t110==s297.2.2.1)&&(decide (t119<(1099511627776:Int))))==true) (idx l s339) default).bind λt127=>(opt (((t110==s297.2.2.1)&&(decide (t119<(1099511627776:Int))))==true) (idx (rowL (many - 1+1) λq=>rowL m (Ly q)) s297.1) default).bind λt133=>(opt (((t110==s297.2.2.1)&&(decide (t119<(1099511627776:Int))))==true) (idx t133 t103) default).bind λt136=>(if (((t110==s297.2.2.1)&&(decide (t119<(1099511627776:Int))))&&(decide ((i64.wrap ((i64.wrap (s297.2.1+(t127).N))+t136))<(0:Int))))=true then (rm (s297.2.2.2.length+[s339].length)).bind λ_=>(idx l s339).bind λt148=>(some (.inr (t103,(i64.wrap (s297.2.1+(t148).N)),(s297.2.2.2++[s339])))) else (some (.inl (i64.wrap (s339+(1:Int)))))) else (some (.inr (s297.2.2.1,s297.2.1,s297.2.2.2)))):Option ((Int)⊕((Int×Int×List Int))))) (i64.wrap ((first:Int)+(1:Int)))).bind λ(p352:(Int×Int×List Int))=>(some (.inl ((i64.wrap (s297.1 - (1:Int))),p352.2.1,p352.1,p352.2.2))) else (some (.inr s297.2.2.2))):Option ((Int×Int×Int×List Int)⊕((List Int)))))
      ((k:Int) - 1,st.2.2,(st.1:Int),st.2.1)=some (outS (l.map (edN m)) Ly first k st).2.1:=by
    intro k
    induction k with
    | zero=>intro st _ _;rw[Qac];simp only;rw[Zd (by simp)];rfl
    | succ k ih=>
     intro st hk hst;have e8:=inn k (by omega) (l.length - (first+1)) (first+1) st (by omega) (by omega);have hlen:=Qo6 (E:=l.map (edN m)) (L:=Ly k) (l.length - (first+1)) (first+1) st;rw[<-Qw (n:=l.length) (k:=first) (by omega) (by omega)] at e8;rw[Qac];simp only;rw[show ((k+1:Nat):Int) - 1=(k:Int) by omega,Zc (by simp),e8];simp only[Za];rw[w64 (n:=(k:Int) - 1) (by omega) (by omega)];refine (ih (inS (l.map (edN m)) (Ly k) (l.length - (first+1)) (first+1) st) (by omega) (by omega)).trans ?_
     conv=>rhs;unfold outS
     rw[Zz]
   have e9:=out (many - 1) (rowN m l[first].B,[(first:Int)],l[first].N) (by omega) (by simp;omega);rw[show ((many - 1:Nat):Int) - 1=i64.wrap ((many:Int) - 2) by rw[w64 (by omega) (by omega)];omega] at e9;exact (ZH (Option.bind · _) e9).trans rfl
 ·have hL':decide (Ly (many - 1) (rowN m l[first].B)>=(1099511627776:Int))=true:=by simpa using hL
  have hg:QdD (Ly (many - 1)) l[first].N 0 (rowN m l[first].B)=false:=by unfold QdD;rw[show decide (Ly (many - 1) (rowN m l[first].B)<INF)=false by simpa using hL];rfl
  rw[hL',hg];simp only[show (true==false)=false from rfl,Qit,Za,Bool.true_or,if_true,Bool.not_false];rw[Qw hf (by omega)]

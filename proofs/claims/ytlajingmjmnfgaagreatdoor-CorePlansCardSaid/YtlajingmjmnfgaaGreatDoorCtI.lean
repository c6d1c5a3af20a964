/- CountsLimits: the limits of a schema, both ways, and the plain law. No condition. -/
import Derived.Test.YtlajingmjmnfgaaGreatDoorTyN
import Derived.Test.YtlajingmjmnfgaaGreatDoorEvalA
import Derived.Test.YtlajingmjmnfgaaGreatDoorCtA
import Derived.Test.YtlajingmjmnfgaaGreatDoorGenAll
import Derived.Test.YtlajingmjmnfgaaGreatDoorPlain
set_option linter.all false
open List Go.IntKind
namespace Go.Proofs.YtlajingmjmnfgaaGreatDoor
open Go.Sim
def Qrr {β γ:Type} (n:Nat) (g:Nat→List β) (h:Nat→List γ) (B:Nat) (hB:∀k,k<n→(g k).length≤B∧(h k).length≤B) (a0:List β) (b0:List γ) {body:Int×List β×List γ→Option ((Int×List β×List γ)⊕(List β×List γ))}
  (hs:∀k,k<n→∀(p:List β) (q:List γ),p.length≤a0.length+k * B→q.length≤b0.length+k * B→body ((k:Int),p,q)=some (.inl (((k+1:Nat):Int),p++g k,q++ h k))) (he:∀p q,body ((n:Int),p,q)=some (.inr (p,q))):
  Ql body ((0:Int),a0,b0)=some (a0++(range n).flatMap g,b0++(range n).flatMap h):=by
 have hlen:∀m,m≤n→((range m).flatMap g).length≤m * B∧((range m).flatMap h).length≤m * B:=fun m hm=>⟨Qa7 m g B fun k hk=>(hB k (by omega)).1,Qa7 m h B fun k hk=>(hB k (by omega)).2⟩;have key:=Qcn (body:=body) n (fun m=>((m:Int),a0++(range m).flatMap g,b0++(range m).flatMap h)) (a0++(range n).flatMap g,b0++(range n).flatMap h) (fun k hk=>?_) ?_
 ·simpa using key
 ·have:=hlen k (by omega);rw[hs k hk _ _ (by rw[Zi];omega) (by rw[Zi];omega),Yf,ZM,ZM];simp
 ·rw[he]
def QwT:Str:=[32,108,101,97,115,116]
def mostT:Str:=[32,109,111,115,116]
section
variable {τ:Type} (mk:Int→Int→Int→Bool→τ)
def QhP (i j lo hi:Int):List τ:=[mk i j lo true,mk i j hi false]
def fldL (x:Qa) (i:Nat) (q:Qg) (j:Nat):List τ:=match q.Fields[j]? with | some f=>if (f.Kind==1)=true then QhP mk (i:Int) (Q9 x f.Of) f.Lo f.Hi else [] | none=>[]
def kndL (x:Qa) (i:Nat):List τ:=match x.Kinds[i]? with | some q=>QhP mk (i:Int) (-1) q.Lo q.Hi++(range q.Fields.length).flatMap (fldL mk x i q) | none=>[]
def limL (x:Qa):List τ:=(range x.Kinds.length).flatMap (kndL mk x)
end
def Qjk (s:Str):List Str:=[s++QwT,s++mostT]
def fldN (q:Qg) (j:Nat):List Str:=match q.Fields[j]? with | some f=>if (f.Kind==1)=true then Qjk ((q.Name++[46])++f.Name) else [] | none=>[]
def kndN (x:Qa) (i:Nat):List Str:=match x.Kinds[i]? with | some q=>Qjk q.Name++(range q.Fields.length).flatMap (fldN q) | none=>[]
def namL (x:Qa):List Str:=(range x.Kinds.length).flatMap (kndN x)
def QoN {τ:Type} (mk:Int→Int→Int→Bool→τ) (x:Qa) (i:Nat) (q:Qg) (j:Nat):(fldL mk x i q j).length≤2∧(fldN q j).length≤2:=by
 unfold fldL fldN
 cases q.Fields[j]? with
 | none=>simp
 | some f=>dsimp only;constructor<;>split<;>simp[QhP,Qjk]
def Qiy {τ:Type} (mk:Int→Int→Int→Bool→τ) {x:Qa} (hv:Qfz x) (i:Nat):(kndL mk x i).length≤22∧(kndN x i).length≤22:=by
 unfold kndL kndN
 cases hq:x.Kinds[i]? with
 | none=>simp
 | some q=>have hf:=(QcF (hv.kind q (Zq hq))).2.1;have h1:=Qa7 q.Fields.length (fldL mk x i q) 2 fun j _=>(QoN mk x i q j).1;have h2:=Qa7 q.Fields.length (fldN q) 2 fun j _=>(QoN mk x i q j).2;simp only[Zi,QhP,Qjk,ZB,ZS];omega
def QkH {x:Qa} {p:Qv} (h:p∈QY x):p.Code≠0:=by
 have hp:∀{k j r e:Int},p∈prob k j r e→p.Code≠0:=fun {k j r e} h=>by
  unfold prob at h;split at h
  ·cases h
  ·rw[Ze.1 h];assumption
 unfold QY at h;split at h
 ·simp only[Zp] at h;rcases h with (h | h) | h
  ·obtain⟨i,_,h⟩:=ZG.1 h;unfold Qij at h;split at h
   ·exact hp h
   ·cases h
  ·obtain⟨i,_,h⟩:=ZG.1 h;unfold Qhj at h;split at h
   ·rcases Zp.1 h with h | h
    ·exact hp h
    ·obtain⟨j,_,h⟩:=ZG.1 h;unfold Qgx at h;split at h
     ·exact hp h
     ·cases h
   ·cases h
  ·obtain⟨i,_,h⟩:=ZG.1 h;unfold Qjj at h;split at h
   ·exact hp h
   ·cases h
 ·rw[Ze.1 h];assumption
def Qav {x:Qa} (h:QY x=[]):Qfz x:=by
 unfold QY at h;by_cases hv:Qgw x=0
 ·unfold Qgw at hv;by_cases hs:Qfr x=true
  ·exact QlI hs
  ·rw[Zd hs] at hv;cases hv
 ·rw[Zd hv] at h;cases h
def QlJ {q:Qg} (h:kindS q=true):q.Name.length≤12:=by simp only[kindS,Zg] at h;exact Qe4 h.1.1.1
def QkI {f:Qc} (h:fieldS f=true):f.Name.length≤12:=by simp only[fieldS,Zg] at h;exact Qe4 h.1.1
def Qeo {n:Nat} (h:n≤1000000):cat n=some ():=by unfold cat;rw[Zc (by omega)]
def add13 {s:Str} {a b lo hi:Int} {c0:List Qe} {c1:List Str} (hs:s.length≤1000) (h0:c0.length≤1000000) (h1:c1.length≤1000000):
  QcW s a b lo hi c0 c1=some (c0++QhP Qe.mk a b lo hi,c1++Qjk s):=by
 unfold QcW;rw[Qb2 (by simp;omega),Qeo (by simp;omega),Qeo (by simp;omega),Qb2 (by simp;omega)];rfl
def Qy5 {x:Qa} (h:Qfh x):Qfp x=some (match QY x with | []=>0 | p::_=>p.Code):=by
 unfold Qfp;rw[Qm2 h];simp only[Za]
 cases QY x with
 | nil=>rfl
 | cons p l=>rw[Zc (by simp)];rfl
noncomputable def limR {τ:Type} (mk:Int→Int→Int→Bool→τ) (x:Qa):List τ×List Str×Int:=match QY x with | []=>(limL mk x,namL x,0) | p::_=>([],[],p.Code)
def QlK {x:Qa} (h:Qfh x):Qb0 x=some (limR Qe.mk x):=by
 unfold Qb0 limR;rw[Qy5 h];simp only[Za]
 cases hc:QY x with
 | cons p l=>have:=QkH (x:=x) (p:=p) (by rw[hc];exact Zk ..);dsimp only;rw[Zc (by simpa using this)]
 | nil=>
  have hv:=Qav hc;have hk:=hv.kinds;dsimp only;rw[Zd (by simp)];refine (ZF (Option.bind · _) (Qrr x.Kinds.length (kndN x) (kndL Qe.mk x) 22 (fun i _=>⟨(Qiy Qe.mk hv i).2,(Qiy Qe.mk hv i).1⟩) [] [] (fun i hi p q hp hq=>?_) (fun p q=>by rw[Zd (by simp)]))).trans ?_
  ·simp only[ZS,Nat.zero_add] at hp hq;have hib:i * 22≤132:=by omega
   rw[Zc (by simpa using hi),QX hi];have hK:=hv.kind _ (Zn hi);have hf10:=(QcF hK).2.1;have hnm:=QlJ hK;simp only[Za];rw[add13 (by omega) (by omega) (by omega)];simp only[Za];rw[Qrr x.Kinds[i].Fields.length (fldL Qe.mk x i x.Kinds[i]) (fldN x.Kinds[i]) 2 (fun j _=>QoN _ _ _ _ _) _ _ (fun j hj p' q' hp' hq'=>?_) (fun p' q'=>by rw[Zd (by simp)])]
   ·simp only[Za];have e1:kndL Qe.mk x i=QhP Qe.mk (i:Int) (-1) x.Kinds[i].Lo x.Kinds[i].Hi++(range x.Kinds[i].Fields.length).flatMap (fldL Qe.mk x i x.Kinds[i]):=by unfold kndL;rw[Zb hi]
    have e2:kndN x i=Qjk x.Kinds[i].Name++(range x.Kinds[i].Fields.length).flatMap (fldN x.Kinds[i]):=by unfold kndN;rw[Zb hi]
    rw[e1,e2,QH hi (by omega),ZW,ZW]
   ·simp only[Zi,QhP,Qjk,ZB,ZS] at hp' hq';have hfn:=QkI ((QcF hK).2.2 _ (Zn hj));rw[Zc (by simpa using hj),QX hj];simp only[Za];have e1:fldL Qe.mk x i x.Kinds[i] j=if (x.Kinds[i].Fields[j].Kind==1)=true then QhP Qe.mk (i:Int) (Q9 x x.Kinds[i].Fields[j].Of) x.Kinds[i].Fields[j].Lo x.Kinds[i].Fields[j].Hi else []:=by unfold fldL;rw[Zb hj]
    have e2:fldN x.Kinds[i] j=if (x.Kinds[i].Fields[j].Kind==1)=true then Qjk ((x.Kinds[i].Name++[46])++x.Kinds[i].Fields[j].Name) else []:=by unfold fldN;rw[Zb hj]
    rw[e1,e2,QH hj (by omega)]
    cases (x.Kinds[i].Fields[j].Kind==1) with
    | false=>simp
    | true=>rw[Zc rfl,Zc rfl,Zc rfl,Qeo (by simp;omega),Qeo (by simp;omega),Qc0 (by omega)];simp only[Za];rw[add13 (by simp;omega) (by omega) (by omega)];rfl
  ·rfl
def Qy6 {τ:Type} (mk:Int→Int→Int→Bool→τ) (x:Qa):(limR mk x).1.length≤1000∧(limR mk x).2.1.length≤1000:=by
 unfold limR
 cases hc:QY x with
 | cons p l=>simp
 | nil=>
  have hv:=Qav hc;have hk:=hv.kinds;have h1:=Qa7 x.Kinds.length (kndL mk x) 22 fun i _=>(Qiy mk hv i).1;have h2:=Qa7 x.Kinds.length (kndN x) 22 fun i _=>(Qiy mk hv i).2;refine⟨?_,?_⟩
  ·show (limL mk x).length≤_;unfold limL;omega
  ·show (namL x).length≤_;unfold namL;omega
def QoO {a:List Str} (ha:a.length≤1000000):QdW a a=some true:=by
 unfold QdW;rw[Zd (by simp),Qrg a (fun _=>true) false (fun k hk=>?_) (Zd (by simp))]
 ·rw[Zc (by simp)];rfl
 ·rw[Zc rfl,Zc (by simpa using hk),QX hk];simp only[Za];rw[Zd (by simp),QH hk (by omega)]
def QkJ {k j r e:Int} (h:prob k j r e=[]):e=0:=by
 unfold prob at h;split at h
 ·assumption
 ·cases h
def clean {x:Qa} (hc:QY x=[]) {k j:Int} {q:Qg} {f:Qc} (hq:idx x.Kinds k=some q) (hf:field? x k j=some f):Qhi x q k j f=0:=by
 obtain⟨q',hk,hj,hq',hqf,_,hkl,hjl⟩:=Qgd hf;rw[hq] at hq';cases hq';obtain⟨i,rfl⟩:=Zw hk;obtain⟨n,rfl⟩:=Zw hj;rw[Qci] at hq hqf;unfold QY at hc;split at hc
 ·simp only[append_eq_nil_iff] at hc;have h1:=hc.1.2;unfold QhX at h1;rw[flatMap_eq_nil_iff] at h1;have h2:=h1 i (ZH.2 (by omega));unfold Qhj at h2;rw[hq] at h2;dsimp only at h2;rw[append_eq_nil_iff] at h2;have h3:=h2.2;unfold QjT at h3;rw[flatMap_eq_nil_iff] at h3;have h4:=h3 n (ZH.2 (by omega));unfold Qgx at h4;rw[hqf] at h4;have h5:=QkJ h4;unfold QiZ at h5;split at h5
  ·cases h5
  ·exact h5
 ·cases hc
def Qcq {a:Bool} {c:Int} {r:List Q6} (h:QaZ (⟨a,c⟩::r)=0) (hc:c≠0):a=false∧QaZ r=0:=by
 unfold QaZ at h
 cases a with
 | true=>exact (hc h).elim
 | false=>exact⟨rfl,h⟩
def Qrs {x:Qa} {q:Qg} {k j:Int} {f:Qc} (h:Qhi x q k j f=0) (hk:f.Kind=1∨f.Kind=7∨f.Kind=8):0≤upIx x k j:=by
 unfold Qhi at h;rcases hk with hk | hk | hk
 ·rw[Zd (by omega),Zc hk] at h;have:=(Qcq h (by decide)).1;simpa using this
 ·rw[Zd (by omega),Zd (by omega),Zd (by omega),Zd (by omega),Zd (by omega),Zc hk] at h;have:=(Qcq h (by decide)).1;simpa using this
 ·rw[Zd (by omega),Zd (by omega),Zd (by omega),Zd (by omega),Zd (by omega),Zd (by omega),Zc hk] at h;have:=(Qcq h (by decide)).1;simpa using this
def lowT:Str:=[32,108,111,119]
def Qql:Str:=[32,104,105,103,104]
def Qqm:Str:=[114,117,108,101,58]
abbrev Dt:=Int×Str×Qz
def ofIx (q:Qg) (f:Qc):Int:=if ((f.Kind==4)&&(f.Of !=([]:Str)))=true then Qai q f.Of else -1
def dotN (q:Qg) (f:Qc):Str:=(q.Name++[46])++f.Name
def fldT (i:Nat) (q:Qg) (j:Nat):List Dt:=match q.Fields[j]? with
 | some f=>if ((f.Kind !=2)&&(f.Kind !=4))=true then [] else [((i:Int),dotN q f++lowT,Qz.mk (ofIx q f) (j:Int) (i64.wrap (0 - f.Lo))),((i:Int),dotN q f++Qql,Qz.mk (j:Int) (ofIx q f) f.Hi)]
 | none=>[]
def kndT (x:Qa) (i:Nat):List Dt:=match x.Kinds[i]? with | some q=>(range q.Fields.length).flatMap (fldT i q) | none=>[]
def rulT (x:Qa) (i:Nat):List Dt:=match x.Rules[i]? with
 | some r=>match idx x.Kinds (Q9 x r.Kind) with | some q=>[(Q9 x r.Kind,Qqm++r.Name,Qz.mk (Qai q r.A) (Qai q r.B) r.N)] | none=>[]
 | none=>[]
def Qaz (x:Qa):List Dt:=(range x.Kinds.length).flatMap (kndT x)++(range x.Rules.length).flatMap (rulT x)
def mkD (t:Dt):QT:=⟨t.1,t.2.1,t.2.2⟩
def mkN (t:Dt):QP:=⟨t.1,t.2.1,t.2.2⟩
def Qm3 (i:Nat) (q:Qg) (j:Nat):(fldT i q j).length≤2:=by
 unfold fldT
 cases q.Fields[j]? with
 | none=>simp
 | some f=>dsimp only;split<;>simp
def QhH {x:Qa} (hv:Qfz x) (i:Nat):(kndT x i).length≤20:=by
 unfold kndT
 cases hq:x.Kinds[i]? with
 | none=>simp
 | some q=>have hf:=(QcF (hv.kind q (Zq hq))).2.1;have h1:=Qa7 q.Fields.length (fldT i q) 2 fun j _=>Qm3 i q j;dsimp only;omega
def QkK (x:Qa) (i:Nat):(rulT x i).length≤1:=by
 unfold rulT
 cases x.Rules[i]? with
 | none=>simp
 | some r=>dsimp only;cases idx x.Kinds (Q9 x r.Kind) with | none=>simp | some q=>simp
def QgY {x:Qa} (hv:Qfz x):(Qaz x).length≤136:=by unfold Qaz;rw[Zi];have h1:=Qa7 x.Kinds.length (kndT x) 20 fun j _=>QhH hv j;have h2:=Qa7 x.Rules.length (rulT x) 1 fun j _=>QkK x j;have:=hv.kinds;have:=hv.rules;omega
def Qpr {r:Qo} (h:QcQ r=true):r.Name.length≤12:=by simp only[QcQ,Zg] at h;exact Qe4 h.1.1.1.1.1
def QlL {x:Qa} (hc:QY x=[]) {i:Nat} {r:Qo} (hr:x.Rules[i]?=some r):Qii x i r=0:=by
 unfold QY at hc;split at hc
 ·have h:=(append_eq_nil_iff.1 hc).2;have hi:i<x.Rules.length:=(Zf.1 hr).1;have:=flatMap_eq_nil_iff.1 h i (ZH.2 hi);unfold Qjj at this;rw[hr] at this;exact QkJ this
 ·cases hc
def Qjl {x:Qa} (hc:QY x=[]) {i:Nat} {r:Qo} (hr:x.Rules[i]?=some r):∃q,0≤Q9 x r.Kind∧idx x.Kinds (Q9 x r.Kind)=some q∧q∈x.Kinds:=by have h:=QlL hc hr;unfold Qii at h;have h2:=(Qcq (Qcq h (by decide)).2 (by decide)).1;simp only[Bool.or_eq_false_iff,ZI] at h2;have hr:=Qgc x.Kinds fun k=>k.Name==r.Kind;obtain⟨q,hq,hm⟩:=QhE (l:=x.Kinds) (i:=Q9 x r.Kind) (by omega) hr.2;exact⟨q,by omega,hq,hm⟩
def flat_map' {α β:Type} (g:α→β) (n:Nat) (F:Nat→List α):(range n).flatMap (fun i=>(F i).map g)=((range n).flatMap F).map g:=by rw[map_flatMap]
def Qrt {x:Qa} (hs:Qfh x) (hc:QY x=[]):Qfv x=some ((Qaz x).map mkD):=by
 have hv:=Qav hc;have hk6:=hv.kinds;have hr16:=hv.rules;unfold Qfv;have hall:((range x.Kinds.length).flatMap (kndT x)).length≤120:=by have h1:=Qa7 x.Kinds.length (kndT x) 20 fun j _=>QhH hv j;omega
 refine (ZF (Option.bind · _) (Qdn x.Kinds.length (fun i=>(kndT x i).map mkD) 20 (fun i _=>by rw[ZT];exact QhH hv i) [] (fun i hi acc hacc=>?_) (fun acc=>by rw[Zd (by simp)]))).trans ?_
 ·simp only[ZS,Nat.zero_add] at hacc;rw[Zc (by simpa using hi),QX hi];have hK:=hv.kind _ (Zn hi);have hf10:=(QcF hK).2.1;have hnm:=QlJ hK;simp only[Za];rw[Qdn x.Kinds[i].Fields.length (fun j=>(fldT i x.Kinds[i] j).map mkD) 2 (fun j _=>by rw[ZT];exact Qm3 _ _ _) acc (fun j hj p hp=>?_) (fun p=>by rw[Zd (by simp)])]
  ·simp only[Za];have e:kndT x i=(range x.Kinds[i].Fields.length).flatMap (fldT i x.Kinds[i]):=by unfold kndT;rw[Zb hi]
   rw[e,QH hi (by omega),flat_map']
  ·have hfn:=QkI ((QcF hK).2.2 _ (Zn hj));rw[Zc (by simpa using hj),QX hj];simp only[Za];have e:fldT i x.Kinds[i] j=if ((x.Kinds[i].Fields[j].Kind !=2)&&(x.Kinds[i].Fields[j].Kind !=4))=true then [] else [((i:Int),dotN x.Kinds[i] x.Kinds[i].Fields[j]++lowT,Qz.mk (ofIx x.Kinds[i] x.Kinds[i].Fields[j]) (j:Int) (i64.wrap (0 - x.Kinds[i].Fields[j].Lo))),((i:Int),dotN x.Kinds[i] x.Kinds[i].Fields[j]++Qql,Qz.mk (j:Int) (ofIx x.Kinds[i] x.Kinds[i].Fields[j]) x.Kinds[i].Fields[j].Hi)]:=by
    unfold fldT;rw[Zb hj]
   rw[e,QH hj (by omega)]
   cases ((x.Kinds[i].Fields[j].Kind !=2)&&(x.Kinds[i].Fields[j].Kind !=4)) with
   | true=>rw[Zc rfl,Zc rfl];simp
   | false=>
    rw[Zd (show ¬(false=true) by decide),Zd (show ¬(false=true) by decide)];have ho:(if ((x.Kinds[i].Fields[j].Kind==(4:Int))&&(x.Kinds[i].Fields[j].Of !=([]:Str)))=true then (QdB x.Kinds[i] x.Kinds[i].Fields[j].Of).bind fun t49=>some t49 else some (-1:Int))=some (ofIx x.Kinds[i] x.Kinds[i].Fields[j]):=by
     unfold ofIx;split
     ·unfold QdB;rw[Qcc (by omega)];rfl
     ·rfl
    rw[ho];simp only[Za];rw[Qeo (by simp;omega),Qeo (by simp;omega),Qeo (by simp;omega),Qeo (by simp;omega),Qb2 (by simp;omega)];rfl
 ·simp only[Za,Yg];refine (ZF (Option.bind · _) (Qdn x.Rules.length (fun i=>(rulT x i).map mkD) 1 (fun i _=>by rw[ZT];exact QkK x i) _ (fun i hi acc hacc=>?_) (fun acc=>by rw[Zd (by simp)]))).trans ?_
  ·rw[flat_map',ZT] at hacc;obtain⟨q,hq0,hq,hm⟩:=Qjl hc (Zb hi);have hrn:=Qpr (hv.rule _ (Zn hi));have hK:=hv.kind _ hm;have hf10:=(QcF hK).2.1;rw[Zc (by simpa using hi),QX hi];simp only[Za];rw[Qc0 (by omega)];simp only[Za];rw[hq];simp only[Za];unfold QdB;rw[Qeo (by simp;omega),Qcc (by omega),Qcc (by omega)];simp only[Za];rw[Qb2 (by simp;omega),QH hi (by omega)];have e:rulT x i=[(Q9 x x.Rules[i].Kind,Qqm++x.Rules[i].Name,Qz.mk (Qai q x.Rules[i].A) (Qai q x.Rules[i].B) x.Rules[i].N)]:=by unfold rulT;rw[Zb hi];dsimp only;rw[hq]
   rw[e];rfl
  ·simp only[Za];rw[flat_map',flat_map',←ZV];rfl
def QwU {x:Qa} (hs:Qfh x) (hc:QY x=[]):QfV x=some ((Qaz x).map mkN):=by
 have hv:=Qav hc;have hk6:=hv.kinds;have hr16:=hv.rules;unfold QfV;have hall:((range x.Kinds.length).flatMap (kndT x)).length≤120:=by have h1:=Qa7 x.Kinds.length (kndT x) 20 fun j _=>QhH hv j;omega
 refine (ZF (Option.bind · _) (Qdn x.Kinds.length (fun i=>(kndT x i).map mkN) 20 (fun i _=>by rw[ZT];exact QhH hv i) [] (fun i hi acc hacc=>?_) (fun acc=>by rw[Zd (by simp)]))).trans ?_
 ·simp only[ZS,Nat.zero_add] at hacc;rw[Zc (by simpa using hi),QX hi];have hK:=hv.kind _ (Zn hi);have hf10:=(QcF hK).2.1;have hnm:=QlJ hK;simp only[Za];rw[Qdn x.Kinds[i].Fields.length (fun j=>(fldT i x.Kinds[i] j).map mkN) 2 (fun j _=>by rw[ZT];exact Qm3 _ _ _) acc (fun j hj p hp=>?_) (fun p=>by rw[Zd (by simp)])]
  ·simp only[Za];have e:kndT x i=(range x.Kinds[i].Fields.length).flatMap (fldT i x.Kinds[i]):=by unfold kndT;rw[Zb hi]
   rw[e,QH hi (by omega),flat_map']
  ·have hfn:=QkI ((QcF hK).2.2 _ (Zn hj));rw[Zc (by simpa using hj),QX hj];simp only[Za];have e:fldT i x.Kinds[i] j=if ((x.Kinds[i].Fields[j].Kind !=2)&&(x.Kinds[i].Fields[j].Kind !=4))=true then [] else [((i:Int),dotN x.Kinds[i] x.Kinds[i].Fields[j]++lowT,Qz.mk (ofIx x.Kinds[i] x.Kinds[i].Fields[j]) (j:Int) (i64.wrap (0 - x.Kinds[i].Fields[j].Lo))),((i:Int),dotN x.Kinds[i] x.Kinds[i].Fields[j]++Qql,Qz.mk (j:Int) (ofIx x.Kinds[i] x.Kinds[i].Fields[j]) x.Kinds[i].Fields[j].Hi)]:=by
    unfold fldT;rw[Zb hj]
   rw[e,QH hj (by omega)]
   cases ((x.Kinds[i].Fields[j].Kind !=2)&&(x.Kinds[i].Fields[j].Kind !=4)) with
   | true=>rw[Zc rfl,Zc rfl];simp
   | false=>
    rw[Zd (show ¬(false=true) by decide),Zd (show ¬(false=true) by decide)];have ho:(if ((x.Kinds[i].Fields[j].Kind==(4:Int))&&(x.Kinds[i].Fields[j].Of !=([]:Str)))=true then (Qdb x.Kinds[i] x.Kinds[i].Fields[j].Of).bind fun t57=>some t57 else some (-1:Int))=some (ofIx x.Kinds[i] x.Kinds[i].Fields[j]):=by
     unfold ofIx;split
     ·rw[QhG (by omega)];rfl
     ·rfl
    rw[ho];simp only[Za];rw[Qeo (by simp;omega),Qeo (by simp;omega),Qeo (by simp;omega),Qb2 (by simp;omega),Qeo (by simp;omega),Qb2 (by simp;omega)];simp only[Za];rw[ZW p];rfl
 ·simp only[Za,Yg];refine (ZF (Option.bind · _) (Qdn x.Rules.length (fun i=>(rulT x i).map mkN) 1 (fun i _=>by rw[ZT];exact QkK x i) _ (fun i hi acc hacc=>?_) (fun acc=>by rw[Zd (by simp)]))).trans ?_
  ·rw[flat_map',ZT] at hacc;obtain⟨q,hq0,hq,hm⟩:=Qjl hc (Zb hi);have hrn:=Qpr (hv.rule _ (Zn hi));have hK:=hv.kind _ hm;have hf10:=(QcF hK).2.1;rw[Zc (by simpa using hi),QX hi];simp only[Za];rw[Qp9 (by omega)];simp only[Za];rw[hq];simp only[Za];rw[QhG (by omega),QhG (by omega)];simp only[Za];rw[Qeo (by simp;omega),Qb2 (by simp;omega),QH hi (by omega)];have e:rulT x i=[(Q9 x x.Rules[i].Kind,Qqm++x.Rules[i].Name,Qz.mk (Qai q x.Rules[i].A) (Qai q x.Rules[i].B) x.Rules[i].N)]:=by unfold rulT;rw[Zb hi];dsimp only;rw[hq]
   rw[e];rfl
  ·simp only[Za];rw[flat_map',flat_map',←ZV];rfl
def Qdr (x:Qa):List Str:=namL x++(Qaz x).map fun t=>t.2.1
def QnZ (x:Qa):List Str×Int:=match QY x with | []=>(Qdr x,0) | p::_=>([],p.Code)
def Qm4 {x:Qa} (hv:Qfz x):(namL x).length≤132:=by unfold namL;have h1:=Qa7 x.Kinds.length (kndN x) 22 fun j _=>(Qiy Qe.mk hv j).2;have:=hv.kinds;omega
def QwV {α:Type} (l:List α) (g:α→Str) (a0:List Str) (h0:a0.length≤1000) (hl:l.length≤1000) {body:Int×List Str→Option ((Int×List Str)⊕List Str)}
  (hs:∀k (h:k<l.length) (acc:List Str),acc.length≤2000→body ((k:Int),acc)=some (.inl (((k+1:Nat):Int),acc++[g l[k]]))) (he:∀acc,body ((l.length:Int),acc)=some (.inr acc)):Ql body ((0:Int),a0)=some (a0++l.map g):=by
 have h:=Qcn (body:=body) l.length (fun n=>((n:Int),a0++(l.take n).map g)) (a0++l.map g) (fun k hk=>?_) ?_
 ·simpa using h
 ·rw[hs k hk _ (by simp;omega),←QkZ g l hk,ZW]
 ·rw[he];simp
def Quz {x:Qa} (h:Qfh x):Qfo x=some (match QY x with | []=>0 | p::_=>p.Code):=by
 unfold Qfo;rw[Qm2 h];simp only[Za]
 cases QY x with
 | nil=>rfl
 | cons p l=>rw[Zc (by simp)];rfl
def Qru {x:Qa} (h:Qfh x):Qfw x=some (QnZ x):=by
 unfold Qfw QnZ;rw[Quz h,QlK h];unfold limR
 cases hc:QY x with
 | cons p l=>have:=QkH (x:=x) (p:=p) (by rw[hc];exact Zk ..);dsimp only[Option.bind_some];rw[Zc (by simpa using this)]
 | nil=>
  have hv:=Qav hc;dsimp only[Option.bind_some];rw[Zd (by simp),Qrt h hc];simp only[Za];have h1:=Qm4 hv;have h2:=QgY hv;rw[QwV ((Qaz x).map mkD) (fun t=>t.name) (namL x) (by omega) (by rw[ZT];omega) (fun k hk acc ha=>?_) (fun acc=>by rw[Zd (by simp)])]
  ·simp only[Za,Yw];rfl
  ·rw[Zc (by simpa using hk),QX hk];simp only[Za];rw[Qb2 (by simp;omega),QH hk (by rw[ZT];omega)];rfl
def refF (x:Qa) (i:Nat) (q:Qg) (j:Nat):List QK:=match q.Fields[j]? with | some f=>if (f.Kind==1)=true then [QK.mk (i:Int) (upIx x (i:Int) (j:Int))] else [] | none=>[]
def refK (x:Qa) (i:Nat):List QK:=match x.Kinds[i]? with | some q=>(range q.Fields.length).flatMap (refF x i q) | none=>[]
def Qhk (x:Qa):List QK:=(range x.Kinds.length).flatMap (refK x)
def Qrv (x:Qa) (i:Nat) (q:Qg) (j:Nat):(refF x i q j).length≤1:=by
 unfold refF
 cases q.Fields[j]? with
 | none=>simp
 | some f=>dsimp only;split<;>simp
def Qrw {x:Qa} (hv:Qfz x) (i:Nat):(refK x i).length≤10:=by
 unfold refK
 cases hq:x.Kinds[i]? with
 | none=>simp
 | some q=>have hf:=(QcF (hv.kind q (Zq hq))).2.1;have h1:=Qa7 q.Fields.length (refF x i q) 1 fun j _=>Qrv x i q j;dsimp only;omega
def QwW {x:Qa} (hv:Qfz x):(Qhk x).length≤60:=by unfold Qhk;have h1:=Qa7 x.Kinds.length (refK x) 10 fun j _=>Qrw hv j;have:=hv.kinds;omega
def Qbm (x:Qa):QaX:=⟨x,limL Qe.mk x,(Qaz x).map mkD,Qhk x⟩
def Qrx {x:Qa} (h:Qfh x) (hc:QY x=[]):Qfx x=some (Qbm x):=by
 have hv:=Qav hc;have hk6:=hv.kinds;have hfew:Few x:=h.few;unfold Qfx;rw[QlK h,Qrt h hc];unfold limR;rw[hc];simp only[Za];refine (ZF (Option.bind · _) (Qdn x.Kinds.length (refK x) 10 (fun i _=>Qrw hv i) [] (fun i hi acc hacc=>?_) (fun acc=>by rw[Zd (by simp)]))).trans ?_
 ·simp only[ZS,Nat.zero_add] at hacc;rw[Zc (by simpa using hi),QX hi];have hf10:=(QcF (hv.kind _ (Zn hi))).2.1;simp only[Za];rw[Qdn x.Kinds[i].Fields.length (refF x i x.Kinds[i]) 1 (fun j _=>Qrv _ _ _ _) acc (fun j hj p hp=>?_) (fun p=>by rw[Zd (by simp)])]
  ·simp only[Za];have e:refK x i=(range x.Kinds[i].Fields.length).flatMap (refF x i x.Kinds[i]):=by unfold refK;rw[Zb hi]
   rw[e,QH hi (by omega)]
  ·rw[Zc (by simpa using hj),QX hj];simp only[Za];have e:refF x i x.Kinds[i] j=if (x.Kinds[i].Fields[j].Kind==1)=true then [QK.mk (i:Int) (upIx x (i:Int) (j:Int))] else []:=by unfold refF;rw[Zb hj]
   rw[e,QH hj (by omega)]
   cases (x.Kinds[i].Fields[j].Kind==1) with
   | false=>simp
   | true=>rw[Zc rfl,Zc rfl,Qhg hfew];simp only[Za];rw[Qb2 (by simp;omega)];rfl
 ·rfl
structure CSol (n:Nat) (P:Qe→Prop) (R:Int→Int→Prop) (E:Int→Prop) (v:List Int):Prop where
 len:v.length=n
 num:∀z∈v,0≤z∧z≤65536
 keep:∀y,P y→QeB y v=true
 ref:∀a b,R a b→0<nth v a→0<nth v b
 emp:∀k:Int,0≤k→k<n→E k→nth v k=0
def CSat (n:Nat) (P:Qe→Prop) (R:Int→Int→Prop) (E:Int→Prop):Prop:=∃v,CSol n P R E v
def QjU {v:List Int} {z:Int} (h:z∈v):∃i:Int,0≤i∧i<v.length∧nth v i=z:=by obtain⟨k,hk,rfl⟩:=Yc h;exact⟨(k:Int),by omega,by omega,QoI hk⟩
def NLe (v x:List Int):Prop:=v.length=x.length∧∀i:Int,0≤i→i<v.length→nth v i≤nth x i
def NLe.refl (v:List Int):NLe v v:=⟨rfl,fun _ _ _=>Zy _⟩
def NLe.trans {u v w:List Int} (h:NLe u v) (k:NLe v w):NLe u w:=⟨h.1.trans k.1,fun i h0 h1=>Int.le_trans (h.2 i h0 h1) (k.2 i h0 (by have:=h.1;omega))⟩
def QBY {v w:List Int} (hl:v.length=w.length) (h:∀i:Int,0≤i→i<v.length→nth v i=nth w i):v=w:=by
 refine ext_getElem hl fun k h1 h2=>?_;have:=h (k:Int) (by omega) (by omega)
 rwa [QoI h1,QoI h2] at this
def NLe.anti {v w:List Int} (h:NLe v w) (k:NLe w v):v=w:=QBY h.1 fun i h0 h1=>Int.le_antisymm (h.2 i h0 h1) (k.2 i h0 (by have:=h.1;omega))
def QwX:∀{v w:List Int},NLe v w→v≠w→v.sum<w.sum:=by
 have le:∀{v w:List Int},NLe v w→v.sum≤w.sum:=by
  intro v
  induction v with
  | nil=>intro w h;have:=h.1;cases w with | nil=>exact Zy _ | cons _ _=>cases this
  | cons a v ih=>
   intro w h
   cases w with
   | nil=>cases h.1
   | cons b w=>have h0:=h.2 0 (by omega) (by simp);have h1:NLe v w:=⟨by simpa using h.1,fun i i0 i1=>by have:=h.2 (i+1) (by omega) (by simp;omega);obtain⟨k,rfl⟩:=Zw i0;simpa[nth,show ((k:Int)+1).toNat=k+1 by omega] using this⟩;have:=ih h1;simp only[nth,Int.toNat_zero,getD_cons_zero] at h0;simp only[sum_cons];omega
 intro v
 induction v with
 | nil=>intro w h hne;have:=h.1;cases w with | nil=>exact absurd rfl hne | cons _ _=>cases this
 | cons a v ih=>
  intro w h hne
  cases w with
  | nil=>cases h.1
  | cons b w=>
   have h0:=h.2 0 (by omega) (by simp);have h1:NLe v w:=⟨by simpa using h.1,fun i i0 i1=>by have:=h.2 (i+1) (by omega) (by simp;omega);obtain⟨k,rfl⟩:=Zw i0;simpa[nth,show ((k:Int)+1).toNat=k+1 by omega] using this⟩;simp only[nth,Int.toNat_zero,getD_cons_zero] at h0;simp only[sum_cons];by_cases e:v=w
   ·subst e;have:a≠b:=fun e=>hne (by rw[e]);omega
   ·have:=ih h1 e;omega
def up1 (v:List Int) (k m:Int):List Int:=if nth v k<m then v.set k.toNat m else v
def Qdf (v:List Int) (k m:Int):(up1 v k m).length=v.length:=by unfold up1;split<;>simp
def QjV {v:List Int} {k m i:Int} (k0:0≤k) (k1:k<v.length) (i0:0≤i):nth (up1 v k m) i=if k=i then max (nth v k) m else nth v i:=by
 unfold up1;split
 ·rw[QBM k0 i0 k1];split
  ·omega
  ·rfl
 ·split
  ·next e=>subst e;omega
  ·rfl
def QhY {v:List Int} {k m:Int} (k0:0≤k) (k1:k<v.length):NLe v (up1 v k m):=⟨(Qdf v k m).symm,fun i i0 i1=>by
 rw[QjV k0 k1 i0];split
 ·next e=>subst e;omega
 ·exact Zy _⟩
def Qm5 {v:List Int} {k m:Int} (k0:0≤k) (k1:k<v.length):up1 v k m=v↔m≤nth v k:=by
 constructor
 ·intro h;have:=QjV (m:=m) k0 k1 k0;rw[h,Zc rfl] at this;omega
 ·intro h;unfold up1;rw[Zd (by omega)]
structure CInv (n:Nat) (P:Qe→Prop) (R:Int→Int→Prop) (E:Int→Prop) (v:List Int):Prop where
 len:v.length=n
 nn:∀z∈v,0≤z∧z≤9223372036854775807
 reg:((∀z∈v,z≤65536)∧∀x,CSol n P R E x→NLe v x)∨((∃z∈v,65536<z)∧¬CSat n P R E)
section
variable {n:Nat} {P:Qe→Prop} {R:Int→Int→Prop} {E:Int→Prop} {v:List Int}
theorem CInv.at (h:CInv n P R E v) {i:Int} (i0:0≤i) (i1:i<n):0≤nth v i∧nth v i≤9223372036854775807:=h.nn _ (QcZ i0 (by rw[h.len];exact i1))
theorem CInv.up (h:CInv n P R E v) {k m:Int} (k0:0≤k) (k1:k<n) (hm:m≤9223372036854775807) (hs:(∀z∈v,0≤z∧z≤65536)→∀x,CSol n P R E x→NLe v x→m≤nth x k):CInv n P R E (up1 v k m):=by
 have k1':k<v.length:=by rw[h.len];exact k1
 have hk:=h.at k0 k1;have hnn:∀z∈up1 v k m,0≤z∧z≤9223372036854775807:=fun z hz=>by obtain⟨i,i0,i1,rfl⟩:=QjU hz;rw[Qdf,h.len] at i1;rw[QjV k0 k1' i0];have:=h.at i0 i1;split<;>omega
 refine⟨(Qdf v k m).trans h.len,hnn,?_⟩;rcases h.reg with⟨h1,h2⟩ | ⟨⟨z,hz,hlt⟩,h2⟩
 ·have hx:∀x,CSol n P R E x→NLe (up1 v k m) x:=fun x hx=>by
   have hle:=h2 x hx;have hmx:=hs (fun z hz=>⟨(h.nn z hz).1,h1 z hz⟩) x hx hle;refine⟨(Qdf v k m).trans hle.1,fun i i0 i1=>?_⟩;rw[Qdf] at i1;rw[QjV k0 k1' i0];have:=hle.2 i i0 i1;split
   ·next e=>subst e;omega
   ·exact this
  by_cases hb:∀z∈up1 v k m,z≤65536
  ·exact .inl ⟨hb,hx⟩
  ·refine .inr ?_;have hb':∃z∈up1 v k m,65536<z:=Classical.byContradiction fun hc=>hb fun z hz=>Int.not_lt.1 fun hl=>hc ⟨z,hz,hl⟩;refine⟨hb',fun⟨x,hsx⟩=>?_⟩;obtain⟨z,hz,hlt⟩:=hb';obtain⟨i,i0,i1,rfl⟩:=QjU hz;have h3:=(hx x hsx).2 i i0 i1;have h4:=(hsx.num _ (QcZ i0 (by rw[←(hx x hsx).1];exact i1))).2;omega
 ·refine .inr ⟨?_,h2⟩;obtain⟨i,i0,i1,rfl⟩:=QjU hz;refine⟨nth (up1 v k m) i,QcZ i0 (by rw[Qdf];exact i1),?_⟩;rw[QjV k0 k1' i0];split
  ·next e=>subst e;omega
  ·exact hlt
theorem CInv.zero:CInv n P R E (replicate n 0):=by refine⟨by simp,fun z hz=>by rw[(mem_replicate.1 hz).2];omega,.inl ⟨fun z hz=>by rw[(mem_replicate.1 hz).2];omega,fun x hx=>⟨by rw[Yl,hx.len],fun i i0 i1=>?_⟩⟩⟩;rw[Yl] at i1;have h1:nth (replicate n 0) i=0:=(mem_replicate.1 (QcZ i0 (by rw[Yl];exact i1))).2;rw[h1];exact (hx.num _ (QcZ i0 (by rw[hx.len];exact i1))).1
def rsO (y:Qe) (v:List Int):Int:=if y.B≥0 then nth v y.B else 1
def rsF (y:Qe):Bool:=decide (y.B<0)||(y.Mul==0)
def rsK (y:Qe):Int:=if y.Least=true then y.A else if rsF y=true then y.A else y.B
def rsN (y:Qe) (v:List Int):Int:=if y.Least=true then i64.wrap (y.Mul * rsO y v) else if rsF y=true then 0 else i64.wrap (Int.tdiv (i64.wrap (i64.wrap (nth v y.A+y.Mul) - 1)) y.Mul)
def rsB (y:Qe) (v:List Int):Bool:=if y.Least=true then true else if rsF y=true then decide (nth v y.A≤y.Mul) else true
theorem rsN_le (y:Qe) (v:List Int):rsN y v≤9223372036854775807:=by
 unfold rsN;split
 ·exact (Qpj _).2
 ·split
  ·omega
  ·exact (Qpj _).2
theorem QjW {y:Qe} (hy:VL y n):0≤rsK y∧rsK y<n:=by
 have:=hy.a0;have:=hy.a1;have:=hy.b1;unfold rsK;split
 ·exact⟨hy.a0,hy.a1⟩
 ·split
  ·exact⟨hy.a0,hy.a1⟩
  ·next h=>simp only[rsF,Zz,Zj,not_or] at h;exact⟨by omega,hy.b1⟩
theorem Qry {y:Qe} (hy:VL y n) (hv:∀z∈v,0≤z∧z≤65536) (hl:v.length=n) (hL:y.Least=true):rsN y v=if y.B<0 then y.Mul else y.Mul * nth v y.B:=by
 have:=hy.m0;have:=hy.m1;have:=hy.b0;have:=hy.b1;unfold rsN rsO;rw[Zc hL];by_cases hb:y.B<0
 ·rw[Zd (by omega),Zc hb,Int.mul_one,w64 (by omega) (by omega)]
 ·have h:=hv _ (QcZ (by omega) (by rw[hl];exact hy.b1):nth v y.B∈v);have hm:=Qtm hy.m0 hy.m1 h.1 h.2;rw[Zc (by omega),Zd hb,w64 (by omega) (by omega)]
theorem Qtu {y:Qe} (hy:VL y n) (hv:∀z∈v,0≤z∧z≤65536) (hl:v.length=n) (hL:¬y.Least=true) (hF:¬rsF y=true):rsN y v=(nth v y.A+y.Mul - 1) / y.Mul∧0<y.Mul∧0≤y.B:=by have:=hy.m0;have:=hy.m1;have:=hy.b0;have:=hy.b1;have hF':=hF;simp only[rsF,Zz,Zj,Ye,not_or] at hF';have h:=hv _ (QcZ hy.a0 (by rw[hl];exact hy.a1):nth v y.A∈v);refine⟨?_,by omega,by omega⟩;unfold rsN;rw[Zd hL,Zd hF,w64 (n:=nth v y.A+y.Mul) (by omega) (by omega),w64 (n:=nth v y.A+y.Mul - 1) (by omega) (by omega),Int.tdiv_eq_ediv_of_nonneg (by omega)];have h0:0≤(nth v y.A+y.Mul - 1) / y.Mul:=Int.ediv_nonneg (by omega) (by omega);have h1:(nth v y.A+y.Mul - 1) / y.Mul≤nth v y.A+y.Mul - 1:=Int.ediv_le_self _ (by omega);rw[w64 (by omega) (by omega)]
theorem rs_le {y:Qe} (hy:VL y n) (hP:P y) (hl:v.length=n) (hv:∀z∈v,0≤z∧z≤65536) {x:List Int} (hx:CSol n P R E x) (hle:NLe v x):rsN y v≤nth x (rsK y):=by
 have:=hy.m0;have:=hy.m1;have:=hy.b0;have:=hy.b1;have:=hy.a0;have:=hy.a1;have hk:=hx.keep y hP;unfold QeB bndS at hk;by_cases hL:y.Least=true
 ·rw[Qry hy hv hl hL];unfold rsK;rw[Zc hL] at hk ⊢;by_cases hb:y.B<0
  ·rw[Zc hb] at hk ⊢;simpa using hk
  ·rw[Zd hb] at hk ⊢;have h1:y.Mul * nth v y.B≤y.Mul * nth x y.B:=Int.mul_le_mul_of_nonneg_left (hle.2 _ (by omega) (by rw[hl];exact hy.b1)) hy.m0;have h2:nth x y.A≥y.Mul * nth x y.B:=ZA hk;omega
 ·rw[Zd hL] at hk;by_cases hF:rsF y=true
  ·unfold rsN rsK;rw[Zd hL,Zd hL,Zc hF,Zc hF];exact (hx.num _ (QcZ hy.a0 (by rw[hx.len];exact hy.a1))).1
  ·obtain⟨e,h1,h2⟩:=Qtu hy hv hl hL hF;rw[e];unfold rsK;rw[Zd hL,Zd hF];rw[Zd (by omega)] at hk;have hk:nth x y.A≤y.Mul * nth x y.B:=ZA hk;have h3:=hle.2 _ hy.a0 (by rw[hl];exact hy.a1);exact (Qto h1).2 (by omega)
theorem rs_bad {y:Qe} (hy:VL y n) (hP:P y) (h:CInv n P R E v) (hb:rsB y v=false):¬CSat n P R E:=by
 rcases h.reg with⟨h1,h2⟩ | ⟨_,h2⟩
 ·rintro ⟨x,hx⟩;have:=hy.a0;have:=hy.a1;unfold rsB at hb;split at hb
  ·cases hb
  ·next hL=>
   split at hb
   ·next hF=>
    have hlt:=ZL hb;have hle:=(h2 x hx).2 _ hy.a0 (by rw[h.len];exact hy.a1);have hk:=hx.keep y hP;unfold QeB bndS at hk;rw[Zd hL] at hk;simp only[rsF,Zz,Zj,Ye] at hF;by_cases hB:y.B<0
    ·rw[Zc hB] at hk;have:=ZA hk;omega
    ·have hm:y.Mul=0:=by omega
     rw[Zd hB,hm,Int.zero_mul] at hk;have:=ZA hk;omega
   ·cases hb
 ·exact h2
theorem QBZ {y:Qe} (hy:VL y n) (hl:v.length=n) (hv:∀z∈v,0≤z∧z≤65536) (hb:rsB y v=true) (hd:rsN y v≤nth v (rsK y)):QeB y v=true:=by
 have:=hy.m0;have:=hy.b0;unfold QeB bndS;by_cases hL:y.Least=true
 ·rw[Qry hy hv hl hL] at hd;unfold rsK at hd;rw[Zc hL] at hd ⊢;by_cases hB:y.B<0
  ·rw[Zc hB] at hd ⊢;exact decide_eq_true hd
  ·rw[Zd hB] at hd ⊢;exact decide_eq_true hd
 ·rw[Zd hL];by_cases hF:rsF y=true
  ·unfold rsB at hb;rw[Zd hL,Zc hF] at hb;have hle:=ZA hb;simp only[rsF,Zz,Zj,Ye] at hF;by_cases hB:y.B<0
   ·rw[Zc hB];exact decide_eq_true hle
   ·have hm:y.Mul=0:=by omega
    rw[Zd hB,hm,Int.zero_mul];exact decide_eq_true (by omega)
  ·obtain⟨e,h1,h2⟩:=Qtu hy hv hl hL hF;rw[e] at hd;unfold rsK at hd;rw[Zd hL,Zd hF] at hd;rw[Zd (by omega)];exact decide_eq_true ((Qto h1).1 hd)
def rndL:List Qe→List Int→Option (List Int)
 | [],v=>some v
 | y::l,v=>if rsB y v=true then rndL l (up1 v (rsK y) (rsN y v)) else none
def rndR:List (Int×Int)→List Int→List Int
 | [],v=>v
 | r::l,v=>rndR l (up1 v r.2 (imin 1 (nth v r.1)))
theorem Qtv:∀(l:List Qe) (v:List Int),(∀y∈l,VL y n∧P y)→CInv n P R E v→(∀w,rndL l v=some w→CInv n P R E w∧NLe v w)∧(rndL l v=none→¬CSat n P R E)
 | [],v,_,hv=>⟨fun w hw=>by obtain rfl:=Zs hw;exact⟨hv,NLe.refl _⟩,fun h=>nomatch h⟩
 | y::l,v,hl,hv=>by
  obtain⟨hy,hP⟩:=hl y (Zk ..);have hk:=QjW hy;unfold rndL;by_cases hb:rsB y v=true
  ·rw[Zc hb];have hu:CInv n P R E (up1 v (rsK y) (rsN y v)):=hv.up hk.1 hk.2 (rsN_le y v) fun hn x hx hle=>rs_le hy hP hv.len hn hx hle;obtain⟨h1,h2⟩:=Qtv l _ (fun z hz=>hl z (Zl _ hz)) hu;exact⟨fun w hw=>⟨(h1 w hw).1,(QhY hk.1 (by rw[hv.len];exact hk.2)).trans (h1 w hw).2⟩,h2⟩
  ·rw[Zd hb];exact⟨fun w hw=>(nomatch hw),fun _=>rs_bad hy hP hv (by simpa using hb)⟩
theorem Qtw:∀(l:List (Int×Int)) (v:List Int),(∀r∈l,(0≤r.1∧r.1<n)∧(0≤r.2∧r.2<n)∧R r.1 r.2)→CInv n P R E v→CInv n P R E (rndR l v)∧NLe v (rndR l v)
 | [],v,_,hv=>⟨hv,NLe.refl _⟩
 | r::l,v,hl,hv=>by
  obtain⟨ha,hb,hR⟩:=hl r (Zk ..);have hu:CInv n P R E (up1 v r.2 (imin 1 (nth v r.1))):=hv.up hb.1 hb.2 (by unfold imin;split<;>omega) fun hn x hx hle=>by have h1:=hle.2 r.1 ha.1 (by rw[hv.len];exact ha.2);have h2:=hx.ref r.1 r.2 hR;have h3:=(hx.num _ (QcZ hb.1 (by rw[hx.len];exact hb.2))).1;have h4:=(hn _ (QcZ ha.1 (by rw[hv.len];exact ha.2))).1;unfold imin;split<;>omega
  obtain⟨h1,h2⟩:=Qtw l _ (fun z hz=>hl z (Zl _ hz)) hu;unfold rndR;exact⟨h1,(QhY hb.1 (by rw[hv.len];exact hb.2)).trans h2⟩
theorem QjX:∀(l:List Qe) (v w:List Int),(∀y∈l,VL y n)→v.length=n→rndL l v=some w→NLe v w
 | [],v,w,_,_,h=>by obtain rfl:=Zs h;exact NLe.refl _
 | y::l,v,w,hl,hv,h=>by
  have hk:=QjW (hl y (Zk ..));unfold rndL at h;split at h
  ·exact (QhY hk.1 (by rw[hv];exact hk.2)).trans (QjX l _ w (fun z hz=>hl z (Zl _ hz)) ((Qdf ..).trans hv) h)
  ·cases h
theorem QjY:∀(l:List (Int×Int)) (v:List Int),(∀r∈l,0≤r.2∧r.2<n)→v.length=n→NLe v (rndR l v)
 | [],v,_,_=>NLe.refl _
 | r::l,v,hl,hv=>by have hk:=hl r (Zk ..);exact (QhY hk.1 (by rw[hv];exact hk.2)).trans (QjY l _ (fun z hz=>hl z (Zl _ hz)) ((Qdf ..).trans hv))
theorem Qrz:∀(l:List Qe) (v:List Int),(∀y∈l,VL y n)→v.length=n→rndL l v=some v→∀y∈l,rsB y v=true∧rsN y v≤nth v (rsK y)
 | [],_,_,_,_=>by simp
 | y::l,v,hl,hv,h=>by
  have hk:=QjW (hl y (Zk ..));have hk2:rsK y<v.length:=by rw[hv];exact hk.2
  unfold rndL at h;split at h
  ·next hb=>
   have h1:=QhY (m:=rsN y v) hk.1 hk2;have h2:=QjX l _ v (fun z hz=>hl z (Zl _ hz)) ((Qdf ..).trans hv) h;have e:=(h1.anti h2).symm;rw[e] at h;have ih:=Qrz l v (fun z hz=>hl z (Zl _ hz)) hv h;intro z hz;rcases Zm.1 hz with rfl | hz
   ·exact⟨hb,(Qm5 hk.1 hk2).1 e⟩
   ·exact ih z hz
  ·cases h
theorem QrA:∀(l:List (Int×Int)) (v:List Int),(∀r∈l,0≤r.2∧r.2<n)→v.length=n→rndR l v=v→∀r∈l,imin 1 (nth v r.1)≤nth v r.2
 | [],_,_,_,_=>by simp
 | r::l,v,hl,hv,h=>by
  have hk:=hl r (Zk ..);have hk2:r.2<v.length:=by rw[hv];exact hk.2
  unfold rndR at h;have h1:=QhY (m:=imin 1 (nth v r.1)) hk.1 hk2;have h2:=QjY l (up1 v r.2 (imin 1 (nth v r.1))) (fun z hz=>hl z (Zl _ hz)) ((Qdf ..).trans hv);rw[h] at h2;have e:=(h1.anti h2).symm;rw[e] at h;have ih:=QrA l v (fun z hz=>hl z (Zl _ hz)) hv h;intro z hz;rcases Zm.1 hz with rfl | hz
  ·exact (Qm5 hk.1 hk2).1 e
  ·exact ih z hz
end
def rnd (l:List Qe) (r:List (Int×Int)) (v:List Int):Option (List Int):=(rndL l v).map (rndR r)
def over (E:Int→Bool) (n:Nat) (v:List Int):Bool:=(range n).any fun k=>decide (65536<nth v (k:Int))||(decide (0<nth v (k:Int))&&E (k:Int))
def Qik (E:Int→Bool) (n:Nat) (l:List Qe) (r:List (Int×Int)):Nat→List Int→Bool
 | 0,_=>false
 | f+1,v=>match rnd l r v with
  | none=>false
  | some w=>if over E n w=true then false else if w=v then true else Qik E n l r f w
def QkL {E:Int→Bool} {n:Nat} {v:List Int}:over E n v=false↔∀k:Int,0≤k→k<n→nth v k≤65536∧(0<nth v k→E k=false):=by
 unfold over;rw[any_eq_false];constructor
 ·intro h k k0 k1;obtain⟨j,rfl⟩:=Zw k0;have:=h j (ZH.2 (by omega));simp only[Zz,Zg,Zj,not_or,not_and] at this;exact⟨by omega,fun hp=>by simpa using this.2 hp⟩
 ·intro h j hj;have:=h (j:Int) (by omega) (by have:=ZH.1 hj;omega);simp only[Zz,Zg,Zj,not_or,not_and];exact⟨by omega,fun hp=>by simp[this.2 hp]⟩
def QrB:∀(v:List Int),(∀z∈v,0≤z∧z≤65536)→0≤v.sum∧v.sum≤65536 * v.length
 | [],_=>by simp
 | z::v,h=>by have:=QrB v fun y hy=>h y (Zl _ hy);have:=h z (Zk ..);simp only[sum_cons,ZB];omega
section
variable {n:Nat} {E:Int→Bool} {l:List Qe} {r:List (Int×Int)}
theorem Qps (hl:∀y∈l,VL y n) (hr:∀p∈r,(0≤p.1∧p.1<n)∧(0≤p.2∧p.2<n)):∀(f:Nat) (v:List Int),CInv n (fun y=>y∈l) (fun a b=>(a,b)∈r) (fun k=>E k=true) v→(∀z∈v,0≤z∧z≤65536)→65536 * (n:Int) - v.sum<f→
  (Qik E n l r f v=true↔CSat n (fun y=>y∈l) (fun a b=>(a,b)∈r) (fun k=>E k=true))
 | 0,v,hv,hz,hf=>by have:=QrB v hz;rw[hv.len] at this;omega
 | f+1,v,hv,hz,hf=>by
  obtain⟨h1,h2⟩:=Qtv (R:=fun a b=>(a,b)∈r) (E:=fun k=>E k=true) l v (fun y hy=>⟨hl y hy,hy⟩) hv;unfold Qik rnd
  cases hL:rndL l v with
  | none=>simp only[Option.map_none];exact⟨fun h=>(nomatch h),fun h=>absurd h (h2 hL)⟩
  | some u=>
   simp only[ZY];obtain⟨hu,hvu⟩:=h1 u hL;obtain⟨hw,huw⟩:=Qtw r u (fun p hp=>⟨(hr p hp).1,(hr p hp).2,hp⟩) hu;have hvw:=hvu.trans huw
   cases ho:over E n (rndR r u) with
   | true=>
    rw[Zc rfl];refine⟨fun h=>(nomatch h),fun hs=>?_⟩;exfalso;have:¬over E n (rndR r u)=false:=by rw[ho];simp
    refine this (QkL.2 fun k k0 k1=>?_);rcases hw.reg with⟨g1,g2⟩ | ⟨_,g2⟩
    ·obtain⟨x,hx⟩:=hs;refine⟨g1 _ (QcZ k0 (by rw[hw.len];exact k1)),fun hp=>?_⟩;have hle:=(g2 x hx).2 k k0 (by rw[hw.len];exact k1)
     cases hE:E k with
     | false=>rfl
     | true=>have:=hx.emp k k0 k1 hE;omega
    ·exact absurd hs g2
   | false=>
    rw[Zd (by simp)];have hov:=QkL.1 ho;have hz':∀z∈rndR r u,0≤z∧z≤65536:=fun z hz=>by obtain⟨i,i0,i1,rfl⟩:=QjU hz;rw[hw.len] at i1;exact⟨(hw.at i0 i1).1,(hov i i0 i1).1⟩
    by_cases he:rndR r u=v
    ·rw[Zc he];refine⟨fun _=>?_,fun _=>rfl⟩;have e1:u=v:=(hvu.anti (by rw[he] at huw;exact huw)).symm;subst e1;rw[he] at hov;have fL:=Qrz l u hl hv.len hL;have fR:=QrA r u (fun p hp=>(hr p hp).2) hv.len he;refine⟨u,hv.len,hz,fun y hy=>QBZ (hl y hy) hv.len hz (fL y hy).1 (fL y hy).2,fun a b hab hp=>?_,fun k k0 k1 hE=>?_⟩
     ·have:=fR (a,b) hab;unfold imin at this;dsimp only at this;split at this<;>omega
     ·have h0:=(hz _ (QcZ k0 (by rw[hv.len];exact k1))).1;have h3:=(hov k k0 k1).2;by_cases hp:0<nth u k
      ·rw[h3 hp] at hE;cases hE
      ·omega
    ·rw[Zd he];have:=QwX hvw fun e=>he e.symm;exact Qps hl hr f _ hw hz' (by omega)
end
def Qil (E:Int→Bool) (n:Nat) (l:List Qe) (r:List (Int×Int)):Bool:=Qik E n l r (65536 * n+1) (replicate n 0)
def QrC (n:Nat):(replicate n (0:Int)).sum=0:=by
 induction n with
 | zero=>rfl
 | succ n ih=>rw[replicate_succ,sum_cons,ih];rfl
def QlM {n:Nat} {E:Int→Bool} {l:List Qe} {r:List (Int×Int)} (hl:∀y∈l,VL y n) (hr:∀p∈r,(0≤p.1∧p.1<n)∧(0≤p.2∧p.2<n)):
  Qil E n l r=true↔CSat n (fun y=>y∈l) (fun a b=>(a,b)∈r) (fun k=>E k=true):=
 Qps hl hr _ _ CInv.zero (fun z hz=>by rw[(mem_replicate.1 hz).2];omega) (by rw[QrC];omega)
def QwY {n:Nat} {E:Int→Bool} {l:List Qe} {r:List (Int×Int)} (hl:∀y∈l,VL y n) (hr:∀p∈r,(0≤p.1∧p.1<n)∧(0≤p.2∧p.2<n)) {ρ:Type} {body:List Int→Option (List Int⊕ρ)} (o:Bool→ρ)
  (hb:∀v:List Int,v.length=n→(∀z∈v,0≤z∧z≤65536)→body v=some (match rnd l r v with | none=>.inr (o false) | some w=>if over E n w=true then .inr (o false) else if w=v then .inr (o true) else .inl w)):
  Ql body (replicate n 0)=some (o (Qil E n l r)):=by
 have key:∀(f:Nat) (v:List Int),v.length=n→(∀z∈v,0≤z∧z≤65536)→65536 * (n:Int) - v.sum<f→Ql body v=some (o (Qik E n l r f v)):=by
  intro f
  induction f with
  | zero=>intro v hv hz hf;have:=QrB v hz;rw[hv] at this;omega
  | succ f ih=>
   intro v hv hz hf;rw[Qas,hb v hv hz];unfold Qik
   cases hR:rnd l r v with
   | none=>rfl
   | some w=>
    dsimp only
    cases ho:over E n w with
    | true=>rfl
    | false=>
     by_cases he:w=v
     ·simp only[Zc he,ZU,if_false]
     ·simp only[Zd he,ZU,if_false];unfold rnd at hR
      cases hL:rndL l v with
      | none=>rw[hL] at hR;cases hR
      | some u=>rw[hL] at hR;obtain rfl:=Zs hR;have h1:=QjX l v u hl hv hL;have h2:=QjY r u (fun p hp=>(hr p hp).2) (h1.1.symm.trans hv);have h3:=h1.trans h2;have hov:=QkL.1 ho;have hw:(rndR r u).length=n:=h3.1.symm.trans hv;refine ih _ hw (fun z hz'=>?_) (by have:=QwX h3 fun e=>he e.symm;omega);obtain⟨i,i0,i1,rfl⟩:=QjU hz';rw[hw] at i1;have h4:=h3.2 i i0 (by rw[hv];exact i1);have h5:=(hz _ (QcZ i0 (by rw[hv];exact i1))).1;exact⟨by omega,(hov i i0 i1).1⟩
 exact key _ _ (by simp) (fun z hz=>by rw[(mem_replicate.1 hz).2];omega) (by rw[QrC];omega)
def best (op:Int→Int→Int) (d:Int) (l:List Int):Bool×Int:=l.foldl (fun s y=>(true,if s.1=true then op s.2 y else y)) (false,d)
def upd1 {α:Type} (R:Nat→α) (k:Nat) (v:α):Nat→α:=fun q=>if q=k then v else R q
def Qdd {α:Type} {R:Nat→α} {k:Nat} {v:α}:upd1 R k v k=v:=Zc rfl
def QgZ {α:Type} {R:Nat→α} {k q:Nat} {v:α} (h:q≠k):upd1 R k v q=R q:=Zd h
def Qpt {α:Type} {R:Nat→α} {k:Nat} {v w:α}:upd1 (upd1 R k v) k w=upd1 R k w:=by funext q;unfold upd1;split<;>rfl
def Qpu {α:Type} {R:Nat→α} {k:Nat}:upd1 R k (R k)=R:=by
 funext q;unfold upd1;split
 ·rename_i h;rw[h]
 ·rfl
def rowL {α:Type} (m:Nat) (R:Nat→α):List α:=(range m).map R
def tab (m:Nat) (G:Nat→Nat→Int):List (List Int):=rowL m fun i=>rowL m (G i)
def Qf0 {α:Type} {m:Nat} {R:Nat→α}:(rowL m R).length=m:=by simp[rowL]
def QhI {m:Nat} {G:Nat→Nat→Int}:(tab m G).length=m:=Qf0
def Qb5 {α:Type} {m:Nat} {R:Nat→α} {k:Nat} (h:k<m):idx (rowL m R) (k:Int)=some (R k):=by rw[QX (by rw[Qf0];exact h)];simp[rowL]
def Qf1 {α:Type} {m:Nat} {R:Nat→α} {k:Nat} (h:k<m) (v:α):setAt (rowL m R) (k:Int) v=some (rowL m (upd1 R k v)):=by
 rw[QgO (by rw[Qf0];exact h)];congr 1;apply ext_getElem
 ·simp[rowL]
 ·intro i h1 h2;simp only[rowL,getElem_set,getElem_map,getElem_range,upd1];by_cases hi:k=i
  ·rw[Zc hi,Zc hi.symm]
  ·rw[Zd hi,Zd (fun h=>hi h.symm)]
def Qiz {m:Nat} {G:Nat→Nat→Int} {i:Nat} (h:i<m):idx (tab m G) (i:Int)=some (rowL m (G i)):=Qb5 h
def Qtx {m:Nat} {G:Nat→Nat→Int} {i:Nat} (h:i<m) (R:Nat→Int):setAt (tab m G) (i:Int) (rowL m R)=some (tab m (upd1 G i R)):=by unfold tab;rw[Qf1 h];congr 1;unfold rowL;apply map_congr_left;intro p _;unfold upd1;split<;>rfl
def Qgf {α:Type} {m:Nat} {R S:Nat→α} (h:∀k,k<m→R k=S k):rowL m R=rowL m S:=by unfold rowL;apply map_congr_left;intro k hk;exact h k (by simpa using hk)
def Qpv {m:Nat} {G H:Nat→Nat→Int} (h:∀i k,i<m→k<m→G i k=H i k):tab m G=tab m H:=Qgf fun i hi=>Qgf fun k hk=>h i k hi hk
def Qy7 {α:Type} (m:Nat) (v:α):rowL m (fun _=>v)=replicate m v:=by unfold rowL;rw[map_const'];simp
abbrev INF:Int:=1099511627776
structure Ed where
 a:Nat
 b:Nat
 w:Int
inductive Way (E:List Ed):Nat→Nat→Int→Prop where
 | nil (i:Nat):Way E i i 0
 | cons {e:Ed} {k:Nat} {w:Int} (he:e∈E) (h:Way E e.b k w):Way E e.a k (e.w+w)
def Way.trans {E:List Ed} {i j k:Nat} {v w:Int} (h:Way E i j v) (g:Way E j k w):Way E i k (v+w):=by
 induction h with
 | nil i=>simpa using g
 | cons he _ ih=>
  have:=Way.cons he (ih g)
  rwa [←Int.add_assoc] at this
def Way.one {E:List Ed} {e:Ed} (he:e∈E):Way E e.a e.b e.w:=by simpa using Way.cons he (Way.nil e.b)
def Qml (j:Nat) (T R:Nat→Int) (k:Nat):Nat→Int:=if R j<INF∧T k<INF then upd1 R k (imin (R k) (R j+T k)) else R
def Qcr (j:Nat) (T R:Nat→Int) (n:Nat):Nat→Int:=(range n).foldl (Qml j T) R
def Qim (j:Nat) (T R:Nat→Int) (n:Nat):Qcr j T R (n+1)=Qml j T (Qcr j T R n) n:=by unfold Qcr;rw[Yf,foldl_append];rfl
structure QkM (E:List Ed) (m:Nat) (B U:Int) (i:Nat) (R:Nat→Int):Prop where
 lo:∀q,q<m→-B≤R q
 hi:∀q,q<m→R q≤INF
 up:∀q,q<m→R q<INF→R q≤U
 way:∀q,q<m→R q<INF→Way E i q (R q)
def QkM.mono {E:List Ed} {m:Nat} {B U B' U':Int} {i:Nat} {R:Nat→Int} (h:QkM E m B U i R) (hB:B≤B') (hU:U≤U'):QkM E m B' U' i R:=⟨fun q hq=>by have:=h.lo q hq;omega,h.hi,fun q hq hf=>by have:=h.up q hq hf;omega,h.way⟩
def QhJ (a b:Int):imin a b≤a∧imin a b≤b∧(imin a b=a∨imin a b=b):=by unfold imin;split<;>omega
def QkN {E:List Ed} {m i j:Nat} {b t U:Int} {T R:Nat→Int} (hj:j<m) (hR:QkM E m b U i R) (hT:QkM E m t U j T) (h0:0≤b) (h1:0≤t) (hU:0≤U):
  ∀n,n≤m→QkM E m (b+t+t) (U+U) i (Qcr j T R n)∧(∀q,q<m→Qcr j T R n q≤R q)∧(-(b+t)≤Qcr j T R n j)∧(n≤j→Qcr j T R n j=R j)∧(Qcr j T R n j<INF→R j<INF):=by
 intro n
 induction n with
 | zero=>intro _;refine⟨hR.mono (by omega) (by omega),fun q _=>Zy _,?_,fun _=>rfl,fun h=>h⟩;have:=hR.lo j hj;show -(b+t)≤R j;omega
 | succ n ih=>
  intro hn;obtain⟨i1,i2,i3,i4,i5⟩:=ih (by omega);rw[Qim];generalize hP:Qcr j T R n=P at i1 i2 i3 i4 i5;unfold Qml;by_cases hc:P j<INF∧T n<INF
  ·rw[Zc hc];obtain⟨m1,m2,m3⟩:=QhJ (P n) (P j+T n);have u1:=i2 j hj;have u2:=hR.up j hj (i5 hc.1);have u3:=hT.up n (by omega) hc.2;have l3:=hT.lo n (by omega);have l1:=i1.lo n (by omega);have h1':=i1.hi n (by omega);have w:Way E i n (P j+T n):=(i1.way j hj hc.1).trans (hT.way n (by omega) hc.2);refine⟨⟨fun q hq=>?_,fun q hq=>?_,fun q hq hf=>?_,fun q hq hf=>?_⟩,fun q hq=>?_,?_,?_,?_⟩
   ·by_cases hqn:q=n
    ·subst hqn;rw[Qdd];rcases m3 with h | h<;>rw[h]<;>omega
    ·rw[QgZ hqn];exact i1.lo q hq
   ·by_cases hqn:q=n
    ·subst hqn;rw[Qdd];omega
    ·rw[QgZ hqn];exact i1.hi q hq
   ·by_cases hqn:q=n
    ·subst hqn;rw[Qdd];omega
    ·rw[QgZ hqn] at hf ⊢;exact i1.up q hq hf
   ·by_cases hqn:q=n
    ·subst hqn;rw[Qdd] at hf ⊢;rcases m3 with h | h
     ·rw[h] at hf ⊢;exact i1.way q hq hf
     ·rw[h];exact w
    ·rw[QgZ hqn] at hf ⊢;exact i1.way q hq hf
   ·by_cases hqn:q=n
    ·subst hqn;rw[Qdd];have:=i2 q hq;omega
    ·rw[QgZ hqn];exact i2 q hq
   ·by_cases hjn:j=n
    ·subst hjn;rw[Qdd];have e:=i4 (Zx _);have l0:=hR.lo j hj;rcases m3 with h | h<;>rw[h]<;>omega
    ·rw[QgZ hjn];exact i3
   ·intro hnj;rw[QgZ (by omega)];exact i4 (by omega)
   ·intro _;exact i5 hc.1
  ·rw[Zd hc];exact⟨i1,i2,i3,fun h=>i4 (by omega),i5⟩
def Qsv {m j:Nat} {T R:Nat→Int} (hj:j<m) (h0:T j=0) (hR:∀q,q<m→R q≤INF):∀n,n≤m→∀q,q<m→Qcr j T R n q=if q<n∧R j<INF∧T q<INF then imin (R q) (R j+T q) else R q:=by
 intro n
 induction n with
 | zero=>intro _ q _;rw[Zd (by omega)];rfl
 | succ n ih=>
  intro hn q hq;have hPj:Qcr j T R n j=R j:=by
   rw[ih (by omega) j hj];split
   ·rw[h0,Int.add_zero];unfold imin;split<;>omega
   ·rfl
  have hPn:Qcr j T R n n=R n:=by rw[ih (by omega) n (by omega),Zd (by omega)]
  rw[Qim];unfold Qml;rw[hPj,hPn];by_cases hqn:q=n
  ·subst hqn;by_cases hc:R j<INF∧T q<INF
   ·rw[Zc hc,Qdd,Zc ⟨by omega,hc⟩]
   ·rw[Zd hc,hPn,Zd (fun h=>hc h.2)]
  ·have e:(if q<n+1∧R j<INF∧T q<INF then imin (R q) (R j+T q) else R q)=if q<n∧R j<INF∧T q<INF then imin (R q) (R j+T q) else R q:=by
    have:(q<n+1∧R j<INF∧T q<INF)↔(q<n∧R j<INF∧T q<INF):=by
     constructor
     ·rintro ⟨a,b⟩;exact⟨by omega,b⟩
     ·rintro ⟨a,b⟩;exact⟨by omega,b⟩
    simp only[this]
   rw[e,←ih (by omega) q hq];split
   ·rw[QgZ hqn]
   ·rfl
structure Qgz (E:List Ed) (m:Nat) (B U:Int) (G:Nat→Nat→Int):Prop where
 row:∀i,i<m→QkM E m B U i (G i)
 diag:∀i,i<m→G i i≤0
def fw (j:Nat) (G:Nat→Nat→Int) (i k:Nat):Int:=if G i j<INF∧G j k<INF then imin (G i k) (G i j+G j k) else G i k
structure PhOk (E:List Ed) (m:Nat) (ph:Nat→(Nat→Nat→Int)→Nat→Nat→Int):Prop where
 ok:∀j B U G,j<m→0≤B→0≤U→Qgz E m B U G→Qgz E m (8 * B) (2 * U) (ph j G)
 le:∀j B U G,j<m→0≤B→0≤U→Qgz E m B U G→∀i k,i<m→k<m→ph j G i k≤G i k
 exact:∀j B U G,j<m→0≤B→0≤U→Qgz E m B U G→G j j=0→∀i k,i<m→k<m→ph j G i k=fw j G i k
def phP (m j:Nat) (G:Nat→Nat→Int) (i:Nat):Nat→Int:=Qcr j (G j) (G i) m
def QwZ (E:List Ed) (m:Nat):PhOk E m (fun j G=>phP m j G):=by
 refine⟨fun j B U G hj hB hU h=>⟨fun i hi=>?_,fun i hi=>?_⟩,fun j B U G hj hB hU h i k hi hk=>?_,fun j B U G hj hB hU h h0 i k hi hk=>?_⟩
 ·exact (QkN hj (h.row i hi) (h.row j hj) hB hB hU m (Zx _)).1.mono (by omega) (by omega)
 ·have:=(QkN hj (h.row i hi) (h.row j hj) hB hB hU m (Zx _)).2.1 i hi;have:=h.diag i hi;show Qcr j (G j) (G i) m i≤0;omega
 ·exact (QkN hj (h.row i hi) (h.row j hj) hB hB hU m (Zx _)).2.1 k hk
 ·show Qcr j (G j) (G i) m k=_;rw[Qsv hj h0 (h.row i hi).hi m (Zx _) k hk];unfold fw;simp only[hk,true_and]
def QeG (ph:Nat→(Nat→Nat→Int)→Nat→Nat→Int) (G:Nat→Nat→Int) (n:Nat):Nat→Nat→Int:=(range n).foldl (fun H j=>ph j H) G
def Qin (ph:Nat→(Nat→Nat→Int)→Nat→Nat→Int) (G:Nat→Nat→Int) (n:Nat):QeG ph G (n+1)=ph n (QeG ph G n):=by unfold QeG;rw[Yf,foldl_append];rfl
def Tri (m p:Nat) (G:Nat→Nat→Int):Prop:=∀i k,i<m→k<m→G i p<INF→G p k<INF→G i k≤G i p+G p k
def fw_tri {m j p:Nat} {G H:Nat→Nat→Int} {U:Int} (hj:j<m) (hp:p<m) (hU:2 * U<INF) (hup:∀i k,i<m→k<m→G i k<INF→G i k≤U) (h0:G j j=0) (hH:∀i k,i<m→k<m→H i k=fw j G i k) (ht:Tri m p G):Tri m p H:=by
 have le:∀i k,i<m→k<m→H i k≤G i k∧(G i j<INF→G j k<INF→H i k≤G i j+G j k)∧(H i k=G i k∨(G i j<INF∧G j k<INF∧H i k=G i j+G j k)):=by
  intro i k hi hk;rw[hH i k hi hk];unfold fw;obtain⟨m1,m2,m3⟩:=QhJ (G i k) (G i j+G j k);by_cases hc:G i j<INF∧G j k<INF
  ·rw[Zc hc];exact⟨m1,fun _ _=>m2,m3.imp id (fun h=>⟨hc.1,hc.2,h⟩)⟩
  ·rw[Zd hc];exact⟨Zy _,fun a b=>(hc ⟨a,b⟩).elim,.inl rfl⟩
 intro i k hi hk h1 h2;obtain⟨a1,a2,_⟩:=le i k hi hk;rcases (le i p hi hp).2.2 with b | ⟨b1,b2,b3⟩<;>rcases (le p k hp hk).2.2 with c | ⟨c1,c2,c3⟩
 ·have:=ht i k hi hk (by omega) (by omega);omega
 ·have t:=ht i j hi hj (by omega) c1;have u1:=hup i p hi hp (by omega);have u2:=hup p j hp hj c1;have:=a2 (by unfold INF at *;omega) c2;omega
 ·have t:=ht j k hj hk b2 (by omega);have u1:=hup j p hj hp b2;have u2:=hup p k hp hk (by omega);have:=a2 b1 (by unfold INF at *;omega);omega
 ·have t:=ht j j hj hj b2 c1;have:=a2 b1 c2;omega
def QB0 {m j:Nat} {G H:Nat→Nat→Int} (hj:j<m) (h0:G j j=0) (hH:∀i k,i<m→k<m→H i k=fw j G i k):Tri m j H:=by
 intro i k hi hk h1 h2;have e1:H i j=G i j:=by
  rw[hH i j hi hj];unfold fw;split
  ·rw[h0,Int.add_zero];unfold imin;split<;>rfl
  ·rfl
 have e2:H j k=G j k:=by
  rw[hH j k hj hk];unfold fw;split
  ·rw[h0,Int.zero_add];unfold imin;split<;>rfl
  ·rfl
 rw[e1] at h1 ⊢;rw[e2] at h2 ⊢;rw[hH i k hi hk];unfold fw;rw[Zc ⟨h1,h2⟩];exact (QhJ _ _).2.1
structure Fin (E:List Ed) (m:Nat) (G:Nat→Nat→Int):Prop where
 hi:∀i k,i<m→k<m→G i k≤INF
 up:∀i k,i<m→k<m→G i k<INF→G i k≤4294967296
 way:∀i k,i<m→k<m→G i k<INF→Way E i k (G i k)
 diag:∀i,i<m→G i i≤0
 tri:(∀i,i<m→0≤G i i)→∀p,p<m→Tri m p G
 edge:∀e∈E,G e.a e.b≤e.w
def QhZ:∀n,n≤11→(0:Int)≤8 ^ n * 2097152∧(8:Int) ^ n * 2097152≤18014398509481984∧(0:Int)≤2 ^ n * 2097152∧(2:Int) ^ n * 2097152≤4294967296:=by decide
def Qio {E:List Ed} {m:Nat} {ph:Nat→(Nat→Nat→Int)→Nat→Nat→Int} (hph:PhOk E m ph) {G:Nat→Nat→Int} (h:Qgz E m 2097152 2097152 G) (hm:m≤11):
  ∀n,n≤m→Qgz E m (8 ^ n * 2097152) (2 ^ n * 2097152) (QeG ph G n):=by
 intro n
 induction n with
 | zero=>intro _;simpa[QeG] using h
 | succ n ih=>
  intro hn;have hb:=QhZ n (by omega);rw[Qin];have:=hph.ok n _ _ _ (by omega) hb.1 hb.2.2.1 (ih (by omega));have e1:(8:Int) ^ (n+1) * 2097152=8 * (8 ^ n * 2097152):=by rw[Int.pow_succ];omega
  have e2:(2:Int) ^ (n+1) * 2097152=2 * (2 ^ n * 2097152):=by rw[Int.pow_succ];omega
  rw[e1,e2];exact this
def QrD {E:List Ed} {m:Nat} {ph:Nat→(Nat→Nat→Int)→Nat→Nat→Int} (hph:PhOk E m ph) {G:Nat→Nat→Int} (h:Qgz E m 2097152 2097152 G) (hm:m≤11) {i k:Nat} (hi:i<m) (hk:k<m):
  ∀d n,n+d≤m→QeG ph G (n+d) i k≤QeG ph G n i k:=by
 intro d
 induction d with
 | zero=>intro n _;exact Zy _
 | succ d ih=>intro n hn;have h1:=ih n (by omega);have hb:=QhZ (n+d) (by omega);have h2:=hph.le (n+d) _ _ _ (by omega) hb.1 hb.2.2.1 (Qio hph h hm (n+d) (by omega)) i k hi hk;rw[←Nat.add_assoc,Qin];omega
def Qw0 {E:List Ed} {m:Nat} {ph:Nat→(Nat→Nat→Int)→Nat→Nat→Int} (hph:PhOk E m ph) {G:Nat→Nat→Int} (h:Qgz E m 2097152 2097152 G) (hm:m≤11) (hE:∀e∈E,e.a<m∧e.b<m∧G e.a e.b≤e.w):Fin E m (QeG ph G m):=by
 have hg:=Qio hph h hm m (Zx _);have hb:=QhZ m hm;refine⟨fun i k hi hk=>(hg.row i hi).hi k hk,fun i k hi hk hf=>by have:=(hg.row i hi).up k hk hf;omega,fun i k hi hk hf=>(hg.row i hi).way k hk hf,hg.diag,fun hn=>?_,fun e he=>?_⟩
 ·have key:∀n,n≤m→∀p,p<n→Tri m p (QeG ph G n):=by
   intro n
   induction n with
   | zero=>intro _ p hp;omega
   | succ n ih=>
    intro hnm p hp;have hgn:=Qio hph h hm n (by omega);have hbn:=QhZ n (by omega);have h0:QeG ph G n n n=0:=by have h1:=hgn.diag n (by omega);have h2:=QrD hph h hm (i:=n) (k:=n) (by omega) (by omega) (m - n) n (by omega);have h3:=hn n (by omega);rw[show n+(m - n)=m by omega] at h2;omega
    have hH:∀i k,i<m→k<m→QeG ph G (n+1) i k=fw n (QeG ph G n) i k:=by intro i k hi hk;rw[Qin];exact hph.exact n _ _ _ (by omega) hbn.1 hbn.2.2.1 hgn h0 i k hi hk
    by_cases hpn:p=n
    ·subst hpn;exact QB0 (by omega) h0 hH
    ·exact fw_tri (U:=4294967296) (by omega) (by omega) (by decide) (fun i k hi hk hf=>by have:=(hgn.row i hi).up k hk hf;omega) h0 hH (ih (by omega) p (by omega))
  exact key m (Zx _)
 ·obtain⟨h1,h2,h3⟩:=hE e he;have:=QrD hph h hm h1 h2 m 0 (by omega);rw[Nat.zero_add] at this;have e0B:QeG ph G 0=G:=rfl;rw[e0B] at this;omega
def way_le {E:List Ed} {m:Nat} {G:Nat→Nat→Int} (hf:Fin E m G) (hn:∀i,i<m→0≤G i i) (hE:∀e∈E,e.a<m∧e.b<m∧e.w≤2097152) {i k:Nat} {w:Int} (h:Way E i k w):i<m→k<m→G i k<INF∧G i k≤w:=by
 induction h with
 | nil i=>intro hi _;have:=hf.diag i hi;unfold INF;omega
 | @cons e k w he _ ih=>
  intro hi hk;obtain⟨a1,a2,a3⟩:=hE e he;obtain⟨h1,h2⟩:=ih a2 hk;have h3:=hf.edge e he;have h4:G e.a e.b<INF:=by unfold INF;omega
  have h5:=hf.tri hn e.b a2 e.a k a1 hk h4 h1;have h6:=hf.up e.a e.b a1 a2 h4;have h7:=hf.up e.b k a2 hk h1;refine⟨?_,by omega⟩;unfold INF at *;omega
def QuA (n:Nat) (p:Nat→Bool) (h:∃k,k<n∧p k=true):∃k,k<n∧p k=true∧∀j,j<k→p j=false:=by
 induction n with
 | zero=>obtain⟨k,hk,_⟩:=h;omega
 | succ n ih=>
  by_cases h2:∃k,k<n∧p k=true
  ·obtain⟨k,hk,hp,hm⟩:=ih h2;exact⟨k,by omega,hp,hm⟩
  ·obtain⟨k,hk,hp⟩:=h;have hkn:k=n:=by
    rcases Nat.lt_or_ge k n with h3 | h3
    ·exact (h2 ⟨k,h3,hp⟩).elim
    ·omega
   subst hkn;refine⟨k,hk,hp,fun j hj=>?_⟩;rw[←Bool.not_eq_true];exact fun h3=>h2 ⟨j,hj,h3⟩
def badD (n:Int) (d:Qz):Bool:=((((((decide (d.A< -1)||decide (d.A≥n))||decide (d.B< -1))||decide (d.B≥n))||d.A==d.B)||decide (d.N< -2097152))||decide (d.N>2097152))
def Qbn (n:Int) (l:List Qz):Int:=if (decide (n>10)||decide ((l.length:Int)>64))=true then 4 else if decide (n<0)=true then 1 else if l.any (badD n)=true then 1 else 0
def valid0 {n:Int} {l:List Qz} (h:Qbn n l=0):0≤n∧n≤10∧l.length≤64∧∀d∈l,-1≤d.A∧d.A<n∧-1≤d.B∧d.B<n∧d.A≠d.B∧-2097152≤d.N∧d.N≤2097152:=by
 unfold Qbn at h;split at h
 ·cases h
 ·rename_i h1;split at h
  ·cases h
  ·rename_i h2;split at h
   ·cases h
   ·rename_i h3;simp only[Zz,Zj,not_or] at h1 h2;refine⟨by omega,by omega,by omega,fun d hd=>?_⟩;have:badD n d=false:=by
     rw[←Bool.not_eq_true];intro hb;exact h3 (Yj.2 ⟨d,hd,hb⟩)
    simp only[badD,Bool.or_eq_false_iff,ZI,beq_eq_false_iff_ne,YB] at this;obtain⟨⟨⟨⟨⟨⟨a1,a2⟩,a3⟩,a4⟩,a5⟩,a6⟩,a7⟩:=this;exact⟨by omega,by omega,by omega,by omega,a5,by omega,by omega⟩
def rowN (m:Nat) (a:Int):Nat:=if a<0 then m - 1 else a.toNat
def edN (m:Nat) (d:Qz):Ed:=⟨rowN m d.A,rowN m d.B,d.N⟩
def edS (m:Nat) (d:Qz):Q0:=⟨(rowN m d.A:Int),(rowN m d.B:Int),d.N⟩
def QiA {m:Nat} {a:Int} (h1:-1≤a) (h2:a<(m:Int) - 1):rowN m a<m:=by unfold rowN;split<;>omega
def Qty {m:Nat} {a:Int} (hm:1≤m) (hm2:m≤11) (h1:-1≤a) (h2:a<(m:Int) - 1):Int.tmod (i64.wrap (i64.wrap (a+((m:Int) - 1))+1)) (m:Int)=(rowN m a:Int):=by
 rw[w64 (n:=a+((m:Int) - 1)) (by omega) (by omega),w64 (by omega) (by omega)];unfold rowN;split
 ·have:a=-1:=by omega
  subst this;rw[Int.tmod_eq_emod_of_nonneg (by omega),Int.emod_eq_of_lt (by omega) (by omega)];omega
 ·rw[Int.tmod_eq_emod_of_nonneg (by omega)];have:a+((m:Int) - 1)+1=a+m:=by omega
  rw[this,Int.add_emod_right,Int.emod_eq_of_lt (by omega) (by omega)];omega
def QlN (n:Int) (d:Qz):(((((decide (imin d.A d.B< -1))||(decide (imax d.A d.B≥n)))||(d.A==d.B))||(decide (d.N< -2097152)))||(decide (d.N>2097152)))=badD n d:=by
 have e:(decide (imin d.A d.B< -1)||decide (imax d.A d.B≥n))=((decide (d.A< -1)||decide (d.A≥n))||decide (d.B< -1)||decide (d.B≥n)):=by
  have i1:imin d.A d.B< -1↔(d.A< -1∨d.B< -1):=by unfold imin;split<;>omega
  have i2:imax d.A d.B≥n↔(d.A≥n∨d.B≥n):=by unfold imax;split<;>omega
  rw[ZZ];simp only[Zz,Zj,i1,i2];omega
 unfold badD;rw[e]
def QrE (n:Int) (l:List Qz):Qd5 n l=some (if Qbn n l=0 then (l.map (edS (n+1).toNat),0) else ([],Qbn n l)):=by
 unfold Qd5;by_cases h1:(decide (n>10)||decide ((l.length:Int)>64))=true
 ·have e:Qbn n l=4:=by unfold Qbn;rw[Zc h1]
  rw[Zc h1,e];rfl
 ·rw[Zd h1];by_cases h2:decide (n<0)=true
  ·have e:Qbn n l=1:=by unfold Qbn;rw[Zd h1,Zc h2]
   rw[Zc h2,e];rfl
  ·rw[Zd h2];have hl:l.length≤64:=by simp only[Zz,Zj,not_or] at h1;omega
   have hn:0≤n∧n≤10:=by simp only[Zz,Zj,not_or] at h1 h2;omega
   obtain⟨m,hm⟩:∃m:Nat,n=(m:Int) - 1:=⟨(n+1).toNat,by omega⟩;subst hm;have hmm:((m:Int) - 1+1).toNat=m:=by omega
   rw[hmm,QiQ _ _ (by omega)];simp only[Za];have hw:i64.wrap ((m:Int) - 1+1)=(m:Int):=by rw[w64 (by omega) (by omega)];omega
   rw[hw];have st:∀k,k<l.length→badD ((m:Int) - 1) (l.getD k default)=false→∀z:List Q0,z.length=l.length→
     (idx l (k:Int)).bind (fun t26=>(if (((((decide (imin t26.A t26.B< -1))||(decide (imax t26.A t26.B≥(m:Int) - 1)))||(t26.A==t26.B))||(decide (t26.N< -2097152)))||(decide (t26.N>2097152)))=true then (some (.inr (.inr ((1:Int),([]:List Q0)))):Option ((Int×List Q0)⊕((List Q0)⊕(Int×List Q0)))) else (nz (m:Int)).bind fun _=>(nz (m:Int)).bind fun _=>(setAt z (k:Int) (Q0.mk (Int.tmod (i64.wrap (i64.wrap (t26.A+((m:Int) - 1))+1)) (m:Int)) (Int.tmod (i64.wrap (i64.wrap (t26.B+((m:Int) - 1))+1)) (m:Int)) t26.N)).bind fun t81s=>some (.inl (i64.wrap ((k:Int)+1),t81s))))=
     some (.inl (((k+1:Nat):Int),z.set k (edS m (l.getD k default)))):=by
    intro k hk hb z hz;rw[Zh,Zb hk] at hb ⊢;simp only[Yp] at hb ⊢;rw[QX hk];simp only[Za];rw[QlN,hb,Zd (by simp)];simp only[badD,Bool.or_eq_false_iff,ZI,beq_eq_false_iff_ne,YB] at hb;obtain⟨⟨⟨⟨⟨⟨a1,a2⟩,a3⟩,a4⟩,a5⟩,a6⟩,a7⟩:=hb;rw[Qqk (by omega)];simp only[Za];rw[Qty (by omega) (by omega) (by omega) (by omega),Qty (by omega) (by omega) (by omega) (by omega),QgO (by omega)];simp only[Za];rw[QH (n:=l.length) hk (by omega)];rfl
   by_cases hb:l.any (badD ((m:Int) - 1))=true
   ·have e:Qbn ((m:Int) - 1) l=1:=by unfold Qbn;rw[Zd h1,Zd h2,Zc hb]
    rw[e,Zd (by decide)];obtain⟨k0,hk0,hp0,hmin⟩:=QuA l.length (fun k=>badD ((m:Int) - 1) (l.getD k default)) (by obtain⟨x,hx,hp⟩:=Yj.1 hb;obtain⟨k,hk,rfl⟩:=Yc hx;exact⟨k,hk,by rw[Zh,Zb hk];exact hp⟩);refine QbT k0 (fun k=>((k:Int),(l.map (edS m)).take k++(replicate l.length (Q0.mk 0 0 0)).drop k)) (.inr ((1:Int),([]:List Q0))) (by simp) ?_ ?_ rfl
    ·intro k hk;simp only;rw[Zc (by simp;omega),st k (by omega) (hmin k hk) _ (by simp;omega)];have h2:edS m (l.getD k default)=(l.map (edS m))[k]'(by simp;omega):=by
      rw[Zh,Zb (by omega)];simp
     rw[h2,Qrf _ _ (by simp;omega) (by simp;omega)]
    ·simp only;rw[Zc (by simpa using hk0),QX hk0];simp only[Za];rw[Zh,Zb hk0] at hp0;rw[QlN,Zc (show badD _ l[k0]=true from hp0)]
   ·have hb':l.any (badD ((m:Int) - 1))=false:=by simpa using hb
    have e:Qbn ((m:Int) - 1) l=0:=by unfold Qbn;rw[Zd h1,Zd h2,Zd hb]
    rw[e,Zc rfl];have hall:∀k,k<l.length→badD ((m:Int) - 1) (l.getD k default)=false:=by intro k hk;rw[any_eq_false] at hb';have:=hb' _ (Zn hk);rw[Zh,Zb hk];simpa using this
    refine QbT l.length (fun k=>((k:Int),(l.map (edS m)).take k++(replicate l.length (Q0.mk 0 0 0)).drop k)) (.inl (l.map (edS m))) (by simp) ?_ ?_ rfl
    ·intro k hk;simp only;rw[Zc (by simpa using hk),st k hk (hall k hk) _ (by simp;omega)];have h2:edS m (l.getD k default)=(l.map (edS m))[k]'(by simpa using hk):=by
      rw[Zh,Zb hk];simp
     rw[h2,Qrf _ _ (by simpa using hk) (by simpa using hk)]
    ·simp only;rw[Zd (by simp)];simp[ZD]
structure QcG (m:Nat) (l:List Qz):Prop where
 m1:1≤m
 m11:m≤11
 len:l.length≤64
 ok:∀d∈l,-1≤d.A∧d.A<(m:Int) - 1∧-1≤d.B∧d.B<(m:Int) - 1∧d.A≠d.B∧-2097152≤d.N∧d.N≤2097152
def Qm6 {n:Int} {l:List Qz} (h:Qbn n l=0):∃m:Nat,n=(m:Int) - 1∧QcG m l:=by obtain⟨h1,h2,h3,h4⟩:=valid0 h;refine⟨(n+1).toNat,by omega,by omega,by omega,h3,fun d hd=>?_⟩;obtain⟨a1,a2,a3,a4,a5,a6,a7⟩:=h4 d hd;exact⟨a1,by omega,a3,by omega,a5,a6,a7⟩
def T0 (i k:Nat):Int:=if i=k then 0 else INF
def edT (G:Nat→Nat→Int) (e:Ed):Nat→Nat→Int:=upd1 G e.a (upd1 (G e.a) e.b (imin (G e.a e.b) e.w))
def edsT (E:List Ed):Nat→Nat→Int:=E.foldl edT T0
def half (m i:Nat):List (List Int):=rowL m fun p=>if p<i then rowL m (T0 p) else []
def Qw1 (m:Nat):half m 0=replicate m []:=by unfold half;rw[←Qy7];exact Qgf fun k _=>by simp
def Qw2 (m:Nat):half m m=tab m T0:=Qgf fun k hk=>by rw[Zc hk]
def Qy8 {m i:Nat}:rowL m (upd1 (fun p=>if p<i then rowL m (T0 p) else []) i (rowL m (T0 i)))=half m (i+1):=by
 unfold half;refine Qgf fun k _=>?_;unfold upd1;by_cases h:k=i
 ·subst h;rw[Zc rfl,Zc (by omega)]
 ·rw[Zd h];dsimp only;by_cases h2:k<i
  ·rw[Zc h2,Zc (by omega)]
  ·rw[Zd h2,Zd (by omega)]
def Qpw (E:List Ed) (e:Ed):edsT (E++[e])=edT (edsT E) e:=by unfold edsT;rw[foldl_append];rfl
def Qy9 {m:Nat} {l:List Qz} (hv:QcG m l):∀t,t≤l.length→Qgz (l.map (edN m)) m 2097152 2097152 (edsT ((l.map (edN m)).take t))∧∀e∈(l.map (edN m)).take t,edsT ((l.map (edN m)).take t) e.a e.b≤e.w:=by
 intro t
 induction t with
 | zero=>
  intro _;refine⟨⟨fun i hi=>⟨fun q hq=>?_,fun q hq=>?_,fun q hq hf=>?_,fun q hq hf=>?_⟩,fun i hi=>?_⟩,fun e he=>by simp at he⟩
  ·show -2097152≤T0 i q;unfold T0;split<;>decide
  ·show T0 i q≤INF;unfold T0;split<;>decide
  ·have hf':T0 i q<INF:=hf;show T0 i q≤2097152;unfold T0 at hf' ⊢;split
   ·decide
   ·rename_i h;rw[Zd h] at hf';exact absurd hf' (Int.lt_irrefl _)
  ·have hf':T0 i q<INF:=hf;show Way _ i q (T0 i q);unfold T0 at hf' ⊢;split
   ·rename_i h;subst h;exact .nil _
   ·rename_i h;rw[Zd h] at hf';exact absurd hf' (Int.lt_irrefl _)
  ·show T0 i i≤0;unfold T0;rw[Zc rfl];exact Zy _
 | succ t ih=>
  intro ht;obtain⟨h1,h2⟩:=ih (by omega);have htl:t<(l.map (edN m)).length:=by simp;omega
  obtain⟨e,he⟩:∃e,(l.map (edN m))[t]=e:=⟨_,rfl⟩;have hmem:e∈l.map (edN m):=by rw[←he];exact Zn htl
  rw[Zu htl,he,Qpw];generalize edsT ((l.map (edN m)).take t)=G at h1 h2;obtain⟨d,hd,hde⟩:=ZC.1 hmem;obtain⟨a1,a2,a3,a4,a5,a6,a7⟩:=hv.ok d hd;have ra:e.a<m:=by rw[←hde];exact QiA a1 a2
  have rb:e.b<m:=by rw[←hde];exact QiA a3 a4
  have hw:-2097152≤e.w∧e.w≤2097152:=by rw[←hde];exact⟨a6,a7⟩
  have hab:e.a≠e.b:=by have m1:=hv.m1;rw[←hde];show rowN m d.A≠rowN m d.B;unfold rowN;split<;>split<;>omega
  obtain⟨m1,m2,m3⟩:=QhJ (G e.a e.b) e.w;have val:∀i k,edT G e i k=if i=e.a∧k=e.b then imin (G e.a e.b) e.w else G i k:=by
   intro i k;unfold edT upd1;by_cases hi:i=e.a
   ·subst hi;rw[Zc rfl];by_cases hk:k=e.b
    ·rw[Zc hk,Zc ⟨rfl,hk⟩]
    ·rw[Zd hk,Zd (fun h=>hk h.2)]
   ·rw[Zd hi,Zd (fun h=>hi h.1)]
  have ok:=h1.row e.a ra;have u0:INF=1099511627776:=rfl;refine⟨⟨fun i hi=>⟨fun q hq=>?_,fun q hq=>?_,fun q hq hf=>?_,fun q hq hf=>?_⟩,fun i hi=>?_⟩,fun e' he'=>?_⟩
  ·rw[val];split
   ·have:=ok.lo e.b rb;rcases m3 with h | h<;>rw[h]<;>omega
   ·exact (h1.row i hi).lo q hq
  ·rw[val];split
   ·have:=ok.hi e.b rb;omega
   ·exact (h1.row i hi).hi q hq
  ·rw[val] at hf ⊢;split
   ·omega
   ·rename_i h;rw[Zd h] at hf;exact (h1.row i hi).up q hq hf
  ·rw[val] at hf ⊢;split
   ·rename_i h;rw[Zc h] at hf;obtain⟨rfl,rfl⟩:=h;rcases m3 with h | h
    ·rw[h] at hf ⊢;exact ok.way _ rb hf
    ·rw[h];exact .one hmem
   ·rename_i h;rw[Zd h] at hf;exact (h1.row i hi).way q hq hf
  ·rw[val,Zd (fun h=>hab (h.1.symm.trans h.2))];exact h1.diag i hi
  ·rw[val];rcases Zp.1 he' with h | h
   ·have:=h2 e' h;split
    ·rename_i h3;rw[h3.1,h3.2] at this;omega
    ·exact this
   ·obtain rfl:=Ze.1 h;rw[Zc ⟨rfl,rfl⟩];exact m2
def Qn0 {m:Nat} {l:List Qz} (hv:QcG m l):Qgz (l.map (edN m)) m 2097152 2097152 (edsT (l.map (edN m)))∧∀e∈l.map (edN m),e.a<m∧e.b<m∧edsT (l.map (edN m)) e.a e.b≤e.w:=by
 have h:=Qy9 hv l.length (Zx _);rw[ZD (by simp)] at h;refine⟨h.1,fun e he=>⟨?_,?_,h.2 e he⟩⟩
 ·obtain⟨d,hd,rfl⟩:=ZC.1 he;obtain⟨a1,a2,_⟩:=hv.ok d hd;exact QiA a1 a2
 ·obtain⟨d,hd,rfl⟩:=ZC.1 he;obtain⟨_,_,a3,a4,_⟩:=hv.ok d hd;exact QiA a3 a4
def QuB {m:Nat} {l:List Qz} (hv:QcG m l):∀e∈l.map (edN m),e.a<m∧e.b<m∧e.w≤2097152:=by intro e he;have h:=(Qn0 hv).2 e he;obtain⟨d,hd,rfl⟩:=ZC.1 he;obtain⟨_,_,_,_,_,_,a7⟩:=hv.ok d hd;exact⟨h.1,h.2.1,a7⟩
def tP (m:Nat) (l:List Qz):Nat→Nat→Int:=QeG (fun j G=>phP m j G) (edsT (l.map (edN m))) m
def tP_fin {m:Nat} {l:List Qz} (hv:QcG m l):Fin (l.map (edN m)) m (tP m l):=Qw0 (QwZ _ m) (Qn0 hv).1 hv.m11 (Qn0 hv).2
def QrF {m:Nat} (hm:m≤11):i64.wrap ((m:Int) - 1+1)=(m:Int):=by rw[w64 (by omega) (by omega)];omega
def Qpx {m:Nat} (h1:1≤m) (h2:m≤11):Qcx [(1099511627776:Int)] (m:Int)=some (rowL m fun _=>INF):=by
 have key:∀m:Nat,m<12→1≤m→QCy 20 [(1099511627776:Int)] (m:Int)=some (rowL m fun _=>INF):=by decide+kernel
 exact LeC.le (x:=QCy 20 [(1099511627776:Int)] (m:Int)) _ (key m (by omega) h1)
def QuC {j:Nat} {T R:Nat→Int} (h:¬R j<INF):∀n,Qcr j T R n=R:=by
 intro n
 induction n with
 | zero=>rfl
 | succ n ih=>rw[Qim,ih];unfold Qml;rw[Zd (fun h2=>h h2.1)]
def QB1 {m:Nat} (R:Nat→Int) (z:List Int) (h:z.length=m):cpy z (rowL m R)=rowL m R:=by unfold cpy;rw[ZD (by rw[Qf0];omega),drop_of_length_le (by rw[Qf0];omega),Yh]
def part (ph:Nat→Nat→Int) (G:Nat→Nat→Int) (i:Nat):Nat→Nat→Int:=fun p=>if p<i then ph p else G p
def QlO {ph G:Nat→Nat→Int} {i:Nat}:part ph G i i=G i:=Zd (Nat.lt_irrefl _)
def Qmm {ph G:Nat→Nat→Int} {i p:Nat} (h:p<i):part ph G i p=ph p:=Zc h
def Qtz {ph G:Nat→Nat→Int} {i p:Nat} (h:i≤p):part ph G i p=G p:=Zd (by omega)
def Qpy {m:Nat} {ph G:Nat→Nat→Int} {i:Nat} {R:Nat→Int} (h:∀k,k<m→R k=ph i k):tab m (upd1 (part ph G i) i R)=tab m (part ph G (i+1)):=by
 refine Qpv fun p k _ hk=>?_;unfold upd1;by_cases hp:p=i
 ·subst hp;rw[Zc rfl,Qmm (by omega)];exact h k hk
 ·rw[Zd hp];by_cases h2:p<i
  ·rw[Qmm h2,Qmm (by omega)]
  ·rw[Qtz (by omega),Qtz (by omega)]
def Qw3 {m:Nat} {ph G:Nat→Nat→Int}:tab m (part ph G m)=tab m ph:=Qpv fun p k hp _=>by rw[Qmm hp]
def negB (m:Nat) (G:Nat→Nat→Int):Bool:=(range m).any fun i=>decide (G i i<0)
def Qn1 {m:Nat} {G:Nat→Nat→Int}:negB m G=false↔∀i,i<m→0≤G i i:=by
 unfold negB;rw[any_eq_false];constructor
 ·intro h i hi;have:=h i (by simpa using hi);simpa using this
 ·intro h i hi;have:=h i (by simpa using hi);simpa using this
def Qw4 {m:Nat} {G:Nat→Nat→Int} {i:Nat} (hi:i<m) (h:decide (G i i<0)=true):negB m G=true:=Yj.2 ⟨i,by simpa using hi,h⟩
def wsum {x y:Int} (h1:-4611686018427387904≤x∧x≤4611686018427387903) (h2:-4611686018427387904≤y∧y≤4611686018427387903):i64.wrap (x+y)=x+y:=w64 (by omega) (by omega)
def Qw5 {m:Nat} {l:List Qz} (hv:QcG m l):QeW ((m:Int) - 1) (l.map (edS m))=some (if negB m (tP m l)=true then ([],false) else (tab m (tP m l),true)):=by
 have m1:=hv.m1;have m11:=hv.m11;unfold QeW;rw[QrF m11,QiQ _ _ (by omega),Qpx m1 m11];simp only[Za];refine QbT m (fun i=>((i:Int),half m i)) (half m m) (by rw[Qw1];rfl) ?_ ?_ ?_
 ·intro i hi;simp only;rw[Zc (by simpa using hi)];have e1:setAt (half m i) (i:Int) (rowL m fun _=>INF)=some (rowL m (upd1 (fun p=>if p<i then rowL m (T0 p) else []) i (rowL m fun _=>INF))):=by unfold half;exact Qf1 hi _
  rw[e1];simp only[Za];rw[Qb5 hi,Qdd];simp only[Za];rw[Qf1 hi];simp only[Za];rw[Qf1 hi,Qpt];simp only[Za];have e2:rowL m (upd1 (fun _=>INF) i 0)=rowL m (T0 i):=Qgf fun k _=>by
   unfold upd1 T0;by_cases h:k=i
   ·rw[Zc h,Zc h.symm]
   ·rw[Zd h,Zd (fun h2=>h h2.symm)]
  rw[e2,Qy8,QH (n:=m) hi (by omega)]
 ·simp only;rw[Zd (by simp)]
 ·rw[Qw2];refine QbT l.length (fun t=>((t:Int),tab m (edsT ((l.map (edN m)).take t)))) (tab m (edsT (l.map (edN m)))) rfl ?_ ?_ ?_
  ·intro t ht;have htl:t<(l.map (edN m)).length:=by simpa using ht
   have hts:t<(l.map (edS m)).length:=by simpa using ht
   simp only;rw[Zc (by simpa using ht),QX hts];simp only[Za,getElem_map];obtain⟨a1,a2,a3,a4,_⟩:=hv.ok _ (Zn ht);have ra:=QiA a1 a2;have rb:=QiA a3 a4;rw[show (edS m l[t]).a=((rowN m l[t].A:Nat):Int) from rfl,show (edS m l[t]).b=((rowN m l[t].B:Nat):Int) from rfl,Qiz ra];simp only[Za];rw[Qb5 rb];simp only[Za];rw[Qf1 rb];simp only[Za];rw[Qtx ra];simp only[Za];rw[QH (n:=l.length) ht (by have:=hv.len;omega),Zu htl,Qpw];simp only[getElem_map];rfl
  ·simp only;rw[Zd (by simp),ZD (by simp)]
  ·have hg:=fun n hn=>Qio (QwZ (l.map (edN m)) m) (Qn0 hv).1 m11 n hn;refine QbT m (fun j=>((j:Int),tab m (QeG (fun j G=>phP m j G) (edsT (l.map (edN m))) j))) (tab m (tP m l)) rfl ?_ ?_ ?_
   ·intro j hj;have hgj:=hg j (by omega);have hb:=QhZ j (by omega);rw[Qin];generalize QeG (fun j G=>phP m j G) (edsT (l.map (edN m))) j=G at hgj ⊢;simp only;rw[Zc (by rw[QhI];simpa using hj),QiQ _ _ (by omega),Qiz hj];simp only[Za];rw[QB1 (G j) _ (by simp)];refine QbT m (fun i=>((i:Int),tab m (part (phP m j G) G i))) (tab m (phP m j G)) rfl ?_ ?_ ?_
    ·intro i hi;simp only;rw[Zc (by rw[QhI];simpa using hi),Qiz hi,QlO];simp only[Za];rw[Qb5 hj];simp only[Za];by_cases hc:G i j<INF
     ·rw[Zd (by simpa using hc)];have key:((Ql (fun (s377:Int×List (List Int))=>((if (decide (s377.1<((rowL m (G j)).length:Int)))=true then (idx (rowL m (G j)) s377.1).bind fun t97=>((if (decide (t97<(1099511627776:Int)))=true then (idx s377.2 (i:Int)).bind fun r403=>(idx r403 s377.1).bind fun t108=>(idx r403 (j:Int)).bind fun t112=>(setAt r403 s377.1 (imin t108 (i64.wrap (t112+t97)))).bind fun t117s=>(setAt s377.2 (i:Int) t117s).bind fun m404=>(some m404) else (some s377.2))).bind fun (p399:List (List Int))=>(some (.inl ((i64.wrap (s377.1+(1:Int))),p399))) else (some (.inr s377.2))):Option ((Int×List (List Int))⊕((List (List Int)))))) ((0:Int),tab m (part (phP m j G) G i))).bind fun (p392:(List (List Int)))=>(some p392))=some (tab m (part (phP m j G) G (i+1))):=by
       refine QbT m (fun k=>((k:Int),tab m (upd1 (part (phP m j G) G i) i (Qcr j (G j) (G i) k)))) (tab m (part (phP m j G) G (i+1))) ?_ ?_ ?_ rfl
       ·have:upd1 (part (phP m j G) G i) i (Qcr j (G j) (G i) 0)=part (phP m j G) G i:=by
         have e:Qcr j (G j) (G i) 0=part (phP m j G) G i i:=by rw[QlO];rfl
         rw[e,Qpu]
        simp only[this];rfl
       ·intro k hk;obtain⟨i1,i2,i3,i4,i5⟩:=QkN hj (hgj.row i hi) (hgj.row j hj) hb.1 hb.1 hb.2.2.1 k (by omega);simp only;rw[Zc (by rw[Qf0];simpa using hk),Qb5 hk];simp only[Za];have e1:(if decide (G j k<1099511627776)=true then (idx (tab m (upd1 (part (phP m j G) G i) i (Qcr j (G j) (G i) k))) (i:Int)).bind fun r403=>(idx r403 (k:Int)).bind fun t108=>(idx r403 (j:Int)).bind fun t112=>(setAt r403 (k:Int) (imin t108 (i64.wrap (t112+G j k)))).bind fun t117s=>(setAt (tab m (upd1 (part (phP m j G) G i) i (Qcr j (G j) (G i) k))) (i:Int) t117s).bind fun m404=>some m404 else some (tab m (upd1 (part (phP m j G) G i) i (Qcr j (G j) (G i) k))))=some (tab m (upd1 (part (phP m j G) G i) i (Qcr j (G j) (G i) (k+1)))):=by
         rw[Qim];generalize hP:Qcr j (G j) (G i) k=P at i1 i2 i3 i5;have hPj:P j<INF:=by have:=i2 j hj;omega
         unfold Qml;by_cases h:G j k<INF
         ·rw[Zc (by simpa using h),Zc ⟨hPj,h⟩,Qiz hi,Qdd];simp only[Za];rw[Qb5 hk,Qb5 hj];simp only[Za];have l3:=(hgj.row j hj).lo k hk;have u0:INF=1099511627776:=rfl;rw[wsum ⟨by omega,by omega⟩ ⟨by omega,by omega⟩,Qf1 hk];simp only[Za];rw[Qtx hi,Qpt];rfl
         ·rw[Zd (by simpa using h),Zd (fun h2=>h h2.2)]
        rw[e1];simp only[Za];rw[QH (n:=m) hk (by omega)]
       ·simp only;rw[Zd (by rw[Qf0];simp)];congr 2;exact Qpy fun k _=>rfl
      refine Eq.trans (ZF (fun z=>Option.bind z _) key) ?_;simp only[Za];rw[QH (n:=m) hi (by omega)]
     ·rw[Zc (by simpa using hc)];simp only[Za];rw[QH (n:=m) hi (by omega)];have e:tab m (part (phP m j G) G (i+1))=tab m (part (phP m j G) G i):=by
       rw[←Qpy (R:=G i) (fun k _=>by show G i k=Qcr j (G j) (G i) m k;rw[QuC hc])];have:upd1 (part (phP m j G) G i) i (G i)=part (phP m j G) G i:=by
        have e:G i=part (phP m j G) G i i:=QlO.symm
        conv=>lhs;rw[e]
        exact Qpu
       rw[this]
      rw[e]
    ·simp only;rw[Zd (by rw[QhI];simp),Qw3]
    ·rw[QH (n:=m) hj (by omega)]
   ·simp only;rw[Zd (by rw[QhI];simp)];rfl
   ·refine Qwu m (fun i=>decide (tP m l i i<0)) (.inl ()) (fun _=>.inr (false,[])) ?_ ?_ ?_ ?_ ?_
    ·intro i hi hp;rw[Zc (by rw[QhI];simpa using hi),Qiz hi];simp only[Za];rw[Qb5 hi];simp only[Za];rw[hp,Zd (by simp),QH (n:=m) hi (by omega)]
    ·intro i hi hp;rw[Zc (by rw[QhI];simpa using hi),Qiz hi];simp only[Za];rw[Qb5 hi];simp only[Za];rw[hp,Zc rfl]
    ·rw[Zd (by rw[QhI];simp)]
    ·intro hno;have:negB m (tP m l)=false:=Qn1.2 fun i hi=>by simpa using hno i hi
     simp only[this];rfl
    ·intro i hi hp;rw[Qw4 hi hp];rfl
def QlP (n:Int) (l:List Qz):List (List Int)×Int:=if Qbn n l≠0 then ([],Qbn n l) else if negB (n+1).toNat (tP (n+1).toNat l)=true then ([],14) else (tab (n+1).toNat (tP (n+1).toNat l),0)
def Qza (n:Int) (l:List Qz):Qd6 n l=some (QlP n l):=by
 unfold Qd6 QlP;rw[QrE];simp only[Za];by_cases h:Qbn n l=0
 ·obtain⟨m,rfl,hv⟩:=Qm6 h;have hmm:((m:Int) - 1+1).toNat=m:=by omega
  rw[h,Zc rfl,Zd (by simp),Zd (fun h=>h rfl),hmm,Qw5 hv];simp only[Za];cases negB m (tP m l)<;>rfl
 ·rw[Zd h,Zc (by simpa using h),Zc h]
def Qep (L r:Nat→Int) (x:Ed):Nat→Int:=if L x.b<INF then upd1 r x.a (imin (r x.a) (i64.wrap (L x.b+x.w))) else r
def lay (a0:Nat) (tl:List Ed):Nat→Nat→Int
 | 0=>upd1 (fun _=>INF) a0 0
 | s+1=>tl.foldl (Qep (lay a0 tl s)) (fun _=>INF)
def Qfi (L:Nat→Int) (sum n:Int) (v:Nat):Bool:=decide (L v<INF)&&decide (i64.wrap (i64.wrap (sum+n)+L v)<0)
abbrev WkB:=Nat×List Int×Int
def inS (E:List Ed) (L:Nat→Int):Nat→Nat→WkB→WkB
 | 0,_,st=>st
 | k+1,i,st=>if ((E.getD i ⟨0,0,0⟩).a==st.1&&Qfi L st.2.2 (E.getD i ⟨0,0,0⟩).w (E.getD i ⟨0,0,0⟩).b)=true then ((E.getD i ⟨0,0,0⟩).b,st.2.1++[(i:Int)],i64.wrap (st.2.2+(E.getD i ⟨0,0,0⟩).w)) else inS E L k (i+1) st
def outS (E:List Ed) (Ly:Nat→Nat→Int) (first:Nat):Nat→WkB→WkB
 | 0,st=>st
 | k+1,st=>outS E Ly first k (inS E (Ly k) (E.length - (first+1)) (first+1) st)
def QbG (E:List Ed) (many first:Nat):List Int:=
 if Qfi (lay (E.getD first ⟨0,0,0⟩).a (E.drop (first+1)) (many - 1)) (E.getD first ⟨0,0,0⟩).w 0 (E.getD first ⟨0,0,0⟩).b=true then
  (outS E (lay (E.getD first ⟨0,0,0⟩).a (E.drop (first+1))) first (many - 1) ((E.getD first ⟨0,0,0⟩).b,[(first:Int)],(E.getD first ⟨0,0,0⟩).w)).2.1
 else []
def Qip (f:Nat→List Int):Nat→Nat→Option (List Int)
 | 0,_=>none
 | k+1,i=>if (f i).isEmpty=true then Qip f k (i+1) else some (f i)
def QeH (f:Nat→Nat→List Int) (len:Nat):Nat→Nat→Option (List Int)
 | 0,_=>none
 | k+1,many=>match Qip (f many) len 0 with | some p=>some p | none=>QeH f len k (many+1)
def cycS (n:Int) (l:List Qz):List Int×Int:=if Qbn n l≠0 then ([],Qbn n l) else match QeH (QbG (l.map (edN (n+1).toNat))) l.length n.toNat 2 with | some p=>(p,0) | none=>([],6)
def QtA {E:List Ed} {L:Nat→Int}:∀k i st,st.2.1.length≤(inS E L k i st).2.1.length∧(inS E L k i st).2.1.length≤st.2.1.length+1:=by
 intro k
 induction k with
 | zero=>intro i st;unfold inS;omega
 | succ k ih=>
  intro i st;unfold inS;split
  ·simp
  ·exact ih _ _
def Qm7 {E:List Ed} {Ly:Nat→Nat→Int} {first:Nat}:∀k st,st.2.1.length≤(outS E Ly first k st).2.1.length∧(outS E Ly first k st).2.1.length≤st.2.1.length+k:=by
 intro k
 induction k with
 | zero=>intro st;unfold outS;omega
 | succ k ih=>intro st;unfold outS;have h1:=QtA (E:=E) (L:=Ly k) (E.length - (first+1)) (first+1) st;have h2:=ih (inS E (Ly k) (E.length - (first+1)) (first+1) st);omega
def Qw6 {α:Type} {k:Nat} {F:Nat→α}:rowL k F++[F k]=rowL (k+1) F:=by unfold rowL;rw[Yf,ZV];rfl
def Qm8 {m:Nat} {l:List Qz} {i:Nat} (h:i<l.length):idx (l.map (edS m)) (i:Int)=some (edS m l[i]):=by rw[QX (by simpa using h)];simp
def QrG {m:Nat} {l:List Qz} {i:Nat} (h:i<l.length):(l.map (edN m)).getD i ⟨0,0,0⟩=edN m l[i]:=by rw[Zh,Zb (by simpa using h)];simp
def QtB {m:Nat} {c0:List (List Int)} {s:Int} {L:Nat→Int} {v:Nat} (n c1:Int) (hs:idx c0 s=some (rowL m L)) (hv:v<m):Qca (v:Int) s n c0 c1=some (Qfi L c1 n v):=by
 unfold Qca Qfi;rw[hs];simp only[Za];rw[Qb5 hv];simp only[Za];by_cases h:L v<INF
 ·rw[show (decide (L v<1099511627776)==true)=true by simpa using h];simp only[QiR,Za];rw[Qb5 hv];rfl
 ·rw[show (decide (L v<1099511627776)==true)=false by simpa using h];simp only[QlB,Za];have:decide (L v<1099511627776)=false:=by simpa using h
  rw[this];rfl
def Qw7 (m:Nat) (l:List Qz):Prop:=∀d∈l,rowN m d.A<m∧rowN m d.B<m
def QuD {m:Nat} {tl:List Qz} (hl:tl.length<1000000) (hin:Qw7 m tl) {L:Nat→Int} {T:List (List Int)} {s:Int} (hT:idx T s=some (rowL m L)):
  Ql (fun (s201:Int×List Int)=>((if (decide (s201.1<((tl.map (edS m)).length:Int)))=true then (idx (tl.map (edS m)) s201.1).bind fun t52=>(idx T s).bind fun r223=>(idx r223 (t52).b).bind fun t61=>((if (decide (t61<(1099511627776:Int)))=true then (idx s201.2 (t52).a).bind fun t71=>(setAt s201.2 (t52).a (imin t71 (i64.wrap (t61+(t52).n)))).bind fun t78s=>(some t78s) else (some s201.2))).bind fun (p225:List Int)=>(some (.inl ((i64.wrap (s201.1+(1:Int))),p225))) else (some (.inr s201.2))):Option ((Int×List Int)⊕((List Int))))) ((0:Int),rowL m fun _=>INF)=some (rowL m ((tl.map (edN m)).foldl (Qep L) fun _=>INF)):=by
 refine Qcn tl.length (fun k=>((k:Int),rowL m (((tl.take k).map (edN m)).foldl (Qep L) fun _=>INF))) _ ?_ ?_
 ·intro k hk;simp only;obtain⟨ha,hb⟩:=hin _ (Zn hk);rw[Zc (by simpa using hk),Qm8 hk];simp only[Za,edS];rw[hT];simp only[Za];rw[Qb5 hb];simp only[Za];rw[QH hk (by omega),Zu hk,ZV,foldl_append];generalize ((tl.take k).map (edN m)).foldl (Qep L) (fun _=>INF)=r;simp only[Yi,Yz,foldl_cons,foldl_nil];unfold Qep edN;simp only;by_cases h:L (rowN m tl[k].B)<INF
  ·rw[Zc h,Zc (by simpa using h),Qb5 ha];simp only[Za];rw[Qf1 ha];rfl
  ·rw[Zd h,Zd (by simpa using h)];rfl
 ·rw[Zd (by simp),take_length]
def Qzb {m:Nat} {l:List Qz} {i:Nat}:(l.map (edN m)).drop i=(l.drop i).map (edN m):=by rw[map_drop]
def Qzc {m:Nat} {l:List Qz} (hv:QcG m l) {first many:Nat} (hf:first<l.length) (h2:2≤many) (hm:many≤m):
  Qdl ((m:Int) - 1) (l.map (edS m)) (first:Int) (many:Int)=some (QbG (l.map (edN m)) many first):=by
 have hm11:=hv.m11;have hlen:=hv.len;have hin:Qw7 m l:=fun d hd=>by have h:=QuB hv (edN m d) (Ya hd);exact⟨h.1,h.2.1⟩
 unfold Qdl QbG;obtain⟨ha,hb⟩:=hin _ (Zn hf);rw[QrF hm11,Qpx hv.m1 hm11,QrG hf,Qzb];simp only[Za];generalize hLy:lay (edN m l[first]).a ((l.drop (first+1)).map (edN m))=Ly;have e0B:idx [rowL m fun _=>INF] (0:Int)=some (rowL m fun _=>INF):=rfl;rw[e0B,Qm8 hf];simp only[Za,edS];rw[Qf1 ha];simp only[Za];have e1:setAt [rowL m fun _=>INF] (0:Int) (rowL m (upd1 (fun _=>INF) (rowN m l[first].A) 0))=some (rowL 1 fun q=>rowL m (Ly q)):=by rw[←hLy];rfl
 rw[e1];simp only[Za];refine QbT (many - 1) (fun k=>(((k+1:Nat):Int),rowL (k+1) fun q=>rowL m (Ly q))) (rowL many fun q=>rowL m (Ly q)) rfl ?_ ?_ ?_
 ·intro k hk;simp only;rw[Zc (by simp;omega)];have e3:sub (l.map (edS m)) (i64.wrap ((first:Int)+1)) ((l.map (edS m)).length:Int)=some ((l.drop (first+1)).map (edS m)):=by
   rw[w64 (by omega) (by omega)];unfold sub;rw[Zc (by simp;omega),show ((first:Int)+1).toNat=first+1 by omega,ZD (by simp),map_drop]
  rw[e3];simp only[Za];have e4:idx (rowL (k+1) fun q=>rowL m (Ly q)) (i64.wrap (((k+1:Nat):Int) - 1))=some (rowL m (Ly k)):=by rw[w64 (by omega) (by omega),show ((k+1:Nat):Int) - 1=(k:Int) by omega,Qb5 (by omega)]
  rw[QuD (by simp;omega) (fun d hd=>hin d (mem_of_mem_drop hd)) e4];simp only[Za];rw[Qb2 (by rw[Qf0];omega)];simp only[Za];have e5:((l.drop (first+1)).map (edN m)).foldl (Qep (Ly k)) (fun _=>INF)=Ly (k+1):=by rw[←hLy];rfl
  rw[e5,QH (n:=many) (by omega) (by omega)];have:=Qw6 (k:=k+1) (F:=fun q=>rowL m (Ly q));rw[this]
 ·rw[Zd (by simp;omega),show many - 1+1=many by omega]
 ·have e6:idx (rowL many fun q=>rowL m (Ly q)) (i64.wrap ((many:Int) - 1))=some (rowL m (Ly (many - 1))):=by
   rw[w64 (by omega) (by omega),show (many:Int) - 1=((many - 1:Nat):Int) by omega,Qb5 (by omega)]
  rw[QtB _ _ e6 hb];simp only[Za];by_cases hg:Qfi (Ly (many - 1)) l[first].N 0 (rowN m l[first].B)=true
  ·rw[hg];rw[Zd (by simp),Zc (by simpa[edN] using hg)];have inn:∀(L:Nat→Int) (s:Int),idx (rowL many fun q=>rowL m (Ly q)) s=some (rowL m L)→∀(k i:Nat) (st:WkB),i+k=l.length→st.2.1.length≤100→
     (Ql (fun (s165:Int)=>((if (decide (s165<((l.map (edS m)).length:Int)))=true then (idx (l.map (edS m)) s165).bind fun t119=>(opt (((t119).a==(st.1:Int))==true) (Qca (t119).b s (t119).n (rowL many fun q=>rowL m (Ly q)) st.2.2) default).bind fun t132=>(if (((t119).a==(st.1:Int))&&t132)=true then (rm (st.2.1.length+[s165].length)).bind fun _=>(some (.inr (.inr ((t119).b,(st.2.1++[s165]),(i64.wrap (st.2.2+(t119).n)))))) else (some (.inl (i64.wrap (s165+(1:Int)))))) else (some (.inr (.inl ())))):Option ((Int)⊕((Unit)⊕(Int×List Int×Int))))) (i:Int)).bind (fun (e167:(Unit)⊕(Int×List Int×Int))=>(match e167 with | .inl _=>(some ((st.1:Int),st.2.1,st.2.2)) | .inr p179=>(some (p179.1,p179.2.1,p179.2.2))))=
     some (((inS (l.map (edN m)) L k i st).1:Int),(inS (l.map (edN m)) L k i st).2.1,(inS (l.map (edN m)) L k i st).2.2):=by
    intro L s hs k
    induction k with
    | zero=>intro i st hi _;rw[Qas];rw[Zd (by simp;omega)];rfl
    | succ k ih=>
     intro i st hi hst;have hil:i<l.length:=by omega
     obtain⟨ha,hb⟩:=hin _ (Zn hil);rw[Qas];rw[Zc (by simpa using hil),Qm8 hil];simp only[Za,edS];unfold inS;rw[QrG hil,QtB _ _ hs hb];have ea:(((rowN m l[i].A:Nat):Int)==(st.1:Int))=((edN m l[i]).a==st.1):=by rw[ZZ];simp only[edN,Ye];omega
     rw[ea];by_cases hc:((edN m l[i]).a==st.1)=true
     ·rw[hc];simp only[BEq.rfl,QiR,Za,Bool.true_and];by_cases hg:Qfi L st.2.2 l[i].N (rowN m l[i].B)=true
      ·rw[Zc hg,Zc (by simpa[edN] using hg),Qb2 (by simp;omega)];rfl
      ·rw[Zd hg,Zd (by simpa[edN] using hg)];simp only;rw[QH hil (by omega)];exact ih (i+1) st (by omega) hst
     ·have hc':((edN m l[i]).a==st.1)=false:=by simpa using hc
      rw[hc'];simp only[show (false==true)=false from rfl,QlB,Za,Bool.false_and,ZU,if_false];rw[QH hil (by omega)];exact ih (i+1) st (by omega) hst
   have out:∀(k:Nat) (st:WkB),k<many→st.2.1.length+k≤100→
     Ql (fun (s65:Int×Int×List Int×Int)=>((if (decide (s65.1≥(0:Int)))=true then ((Ql (fun (s165:Int)=>((if (decide (s165<((l.map (edS m)).length:Int)))=true then (idx (l.map (edS m)) s165).bind fun t119=>(opt (((t119).a==s65.2.1)==true) (Qca (t119).b s65.1 (t119).n (rowL many fun q=>rowL m (Ly q)) s65.2.2.2) default).bind fun t132=>(if (((t119).a==s65.2.1)&&t132)=true then (rm (s65.2.2.1.length+[s165].length)).bind fun _=>(some (.inr (.inr ((t119).b,(s65.2.2.1++[s165]),(i64.wrap (s65.2.2.2+(t119).n)))))) else (some (.inl (i64.wrap (s165+(1:Int)))))) else (some (.inr (.inl ())))):Option ((Int)⊕((Unit)⊕(Int×List Int×Int))))) (i64.wrap ((first:Int)+(1:Int)))).bind fun (e167:(Unit)⊕(Int×List Int×Int))=>(match e167 with | .inl _=>(some (s65.2.1,s65.2.2.1,s65.2.2.2)) | .inr p179=>(some (p179.1,p179.2.1,p179.2.2)))).bind fun (p135:Int×List Int×Int)=>(some (.inl ((i64.wrap (s65.1 - (1:Int))),p135.1,p135.2.1,p135.2.2))) else (some (.inr s65.2.2.1))):Option ((Int×Int×List Int×Int)⊕((List Int)))))
      ((k:Int) - 1,(st.1:Int),st.2.1,st.2.2)=some (outS (l.map (edN m)) Ly first k st).2.1:=by
    intro k
    induction k with
    | zero=>intro st _ _;rw[Qas];simp only;rw[Zd (by simp)];rfl
    | succ k ih=>
     intro st hk hst;have e7:idx (rowL many fun q=>rowL m (Ly q)) (((k+1:Nat):Int) - 1)=some (rowL m (Ly k)):=by rw[show ((k+1:Nat):Int) - 1=(k:Int) by omega,Qb5 (by omega)]
     have e8:=inn (Ly k) (((k+1:Nat):Int) - 1) e7 (l.length - (first+1)) (first+1) st (by omega) (by omega);have hlen:=QtA (E:=l.map (edN m)) (L:=Ly k) (l.length - (first+1)) (first+1) st;rw[Qas];simp only;rw[←QH (n:=l.length) (k:=first) (by omega) (by omega)] at e8;rw[Zc (by simp),e8];simp only[Za];rw[w64 (n:=((k+1:Nat):Int) - 1 - 1) (by omega) (by omega),show ((k+1:Nat):Int) - 1 - 1=(k:Int) - 1 by omega];refine (ih (inS (l.map (edN m)) (Ly k) (l.length - (first+1)) (first+1) st) (by omega) (by omega)).trans ?_
     conv=>rhs;unfold outS
     rw[ZT]
   have e9:=out (many - 1) (rowN m l[first].B,[(first:Int)],l[first].N) (by omega) (by simp;omega);rw[show ((many - 1:Nat):Int) - 1=i64.wrap ((many:Int) - 2) by rw[w64 (by omega) (by omega)];omega] at e9;simp only at e9;refine (ZF (Option.bind · _) e9).trans ?_;simp only[Za];have hne:=(Qm7 (E:=l.map (edN m)) (Ly:=Ly) (first:=first) (many - 1) (rowN m l[first].B,[(first:Int)],l[first].N)).1;have:ne (outS (l.map (edN m)) Ly first (many - 1) (rowN m l[first].B,[(first:Int)],l[first].N)).2.1=some ():=by
    cases h:(outS (l.map (edN m)) Ly first (many - 1) (rowN m l[first].B,[(first:Int)],l[first].N)).2.1 with
    | nil=>rw[h] at hne;simp at hne
    | cons _ _=>rfl
   rw[this];rfl
  ·have hg':Qfi (Ly (many - 1)) l[first].N 0 (rowN m l[first].B)=false:=by simpa using hg
   rw[hg',Zc (by simp),Zd (by simpa[edN] using hg)]
def QlQ {E:List Ed} {many first:Nat}:(QbG E many first).isEmpty=!Qfi (lay (E.getD first ⟨0,0,0⟩).a (E.drop (first+1)) (many - 1)) (E.getD first ⟨0,0,0⟩).w 0 (E.getD first ⟨0,0,0⟩).b:=by
 unfold QbG;split
 ·next h=>
  rw[h];have hne:=(Qm7 (E:=E) (Ly:=lay (E.getD first ⟨0,0,0⟩).a (E.drop (first+1))) (first:=first) (many - 1) ((E.getD first ⟨0,0,0⟩).b,[(first:Int)],(E.getD first ⟨0,0,0⟩).w)).1
  cases h:(outS E (lay (E.getD first ⟨0,0,0⟩).a (E.drop (first+1))) first (many - 1) ((E.getD first ⟨0,0,0⟩).b,[(first:Int)],(E.getD first ⟨0,0,0⟩).w)).2.1 with
  | nil=>rw[h] at hne;simp at hne
  | cons _ _=>rfl
 ·next h=>rw[Bool.not_eq_true] at h;rw[h];rfl
def Qw8 {m:Nat} {l:List Qz} (hv:QcG m l) {many:Nat} (h2:2≤many) (hm:many≤m):∀(k i:Nat),i+k=l.length→
  Ql (fun (s46:Int)=>((if (decide (s46<((l.map (edS m)).length:Int)))=true then (Qdl ((m:Int) - 1) (l.map (edS m)) s46 (many:Int)).bind fun t35=>(if (!t35.isEmpty)=true then (some (.inr (.inr (t35,(0:Int))))) else (some (.inl (i64.wrap (s46+(1:Int)))))) else (some (.inr (.inl ())))):Option ((Int)⊕((Unit)⊕((List Int)×Int))))) (i:Int)=
   some (match Qip (QbG (l.map (edN m)) many) k i with | some p=>.inr (p,0) | none=>.inl ()):=by
 have hlen:=hv.len;intro k
 induction k with
 | zero=>intro i hi;rw[Qas];rw[Zd (by simp;omega)];rfl
 | succ k ih=>
  intro i hi;rw[Qas];rw[Zc (by simp;omega),Qzc hv (by omega) h2 hm];simp only[Za];unfold Qip
  cases h:(QbG (l.map (edN m)) many i).isEmpty with
  | true=>simp only[Bool.not_true,ZU,if_false,if_true];rw[QH (n:=l.length) (by omega) (by omega)];exact ih (i+1) (by omega)
  | false=>simp only[Bool.not_false,if_true,ZU,if_false]
def cyc_is (n:Int) (l:List Qz):Qfq n l=some (cycS n l):=by
 unfold Qfq cycS;rw[QrE];simp only[Za];by_cases h:Qbn n l=0
 ·obtain⟨m,rfl,hv⟩:=Qm6 h;have hm11:=hv.m11;have hm1:=hv.m1;rw[Zc h,Zd (by simp[h])];have hn:¬(Qbn ((m:Int) - 1) l≠0):=fun g=>g h;rw[Zd hn,show ((m:Int) - 1+1).toNat=m by omega,show ((m:Int) - 1).toNat=m - 1 by omega,QrF hm11];have key:∀(k many:Nat),2≤many→many+k=m+1→Ql (fun (s8:Int)=>((if (decide (s8≤(m:Int)))=true then (Ql (fun (s46:Int)=>((if (decide (s46<((l.map (edS m)).length:Int)))=true then (Qdl ((m:Int) - 1) (l.map (edS m)) s46 s8).bind fun t35=>(if (!t35.isEmpty)=true then (some (.inr (.inr (t35,(0:Int))))) else (some (.inl (i64.wrap (s46+(1:Int)))))) else (some (.inr (.inl ())))):Option ((Int)⊕((Unit)⊕((List Int)×Int))))) (0:Int)).bind fun (e47:(Unit)⊕((List Int)×Int))=>(match e47 with | .inl p57=>(some (.inl (i64.wrap (s8+(1:Int))))) | .inr p58=>(some (.inr (.inr (p58.1,p58.2))))) else (some (.inr (.inl ())))):Option ((Int)⊕((Unit)⊕((List Int)×Int))))) (many:Int)=
    some (match QeH (QbG (l.map (edN m))) l.length k many with | some p=>.inr (p,0) | none=>.inl ()):=by
   intro k
   induction k with
   | zero=>intro many h2 hk;rw[Qas];rw[Zd (by simp;omega)];rfl
   | succ k ih=>
    intro many h2 hk;rw[Qas];have hin:=Qw8 hv h2 (show many≤m by omega) l.length 0 (by omega);rw[show ((0:Nat):Int)=0 from rfl] at hin;rw[Zc (by simp;omega),hin];simp only[Za];unfold QeH
    cases hs:Qip (QbG (l.map (edN m)) many) l.length 0 with
    | some p=>rfl
    | none=>simp only;rw[QH (n:=m+1) (k:=many) (by omega) (by omega)];exact ih (many+1) (by omega) (by omega)
  have h2:=key (m - 1) 2 (by omega) (by omega);rw[show ((2:Nat):Int)=2 from rfl] at h2;refine (ZF (Option.bind · _) h2).trans ?_;simp only[Za];cases QeH (QbG (l.map (edN m))) l.length (m - 1) 2<;>rfl
 ·rw[Zd h,Zc h];simp only;rw[Zc (by simpa using h)]

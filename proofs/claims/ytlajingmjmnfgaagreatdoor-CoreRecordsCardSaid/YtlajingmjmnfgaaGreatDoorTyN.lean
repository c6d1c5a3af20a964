/- typing.Check: the error of a field, of a kind, of a rule, as plain functions. No condition. -/
import Derived.Test.YtlajingmjmnfgaaGreatDoorCtA
set_option linter.all false
open List Go.IntKind
namespace Go.Proofs.YtlajingmjmnfgaaGreatDoor
open Go.Sim
def QaJ:List QV→Int
 | []=>0
 | f::r=>if f.is=true then f.code else QaJ r
theorem QfY {l:List QV} (hl:l.length≤1000):Qai l=some (QaJ l):=by
 have key:Ok (Qai l) (fun r=>r=QaJ l):=by
  unfold Qai
  refine Ok.bind (P:=fun e:Unit⊕Int=>(match e with | .inl _=>0 | .inr r=>r)=QaJ l) (Ok.loop (fun m s=>0≤s∧s+m=l.length∧QaJ (l.drop s.toNat)=QaJ l) l.length ⟨Int.le_refl _,by omega,by simp⟩ fun m s hs=>?_) fun e he=>by cases e<;>exact Ok.mk he
  obtain⟨h1,h2,h3⟩:=hs
  obtain⟨k,rfl⟩:=Int.eq_ofNat_of_zero_le h1
  rw[Int.toNat_natCast] at h3
  refine Ok.ite (fun hk=>?_) (fun hk=>?_)
  ·have hk':k<l.length:=by simpa using hk
   rw[QY hk']
   simp only[Option.bind_some]
   rw[drop_eq_getElem_cons hk',QaJ] at h3
   refine Ok.ite (fun hi=>Ok.mk ?_) (fun hi=>Ok.mk ⟨m - 1,by omega,?_⟩)
   ·rw[if_pos hi] at h3;exact h3
   ·rw[if_neg (by rw[hi];decide)] at h3
    rw[QK hk' (by omega)]
    exact⟨by omega,by omega,by rw[Int.toNat_natCast];exact h3⟩
  ·have hk':¬k<l.length:=by simpa using hk
   rw[drop_of_length_le (by omega)] at h3
   exact Ok.mk h3
 obtain⟨r,hr,rfl⟩:=key
 exact hr
/-- The field above to which Of leads. -/
def topS (x:Qa) (k j:Int) (f:Qb):Qb×Bool:=
 if upIx x k j<0 then (QdJ,false)
 else match idx x.Kinds (upIx x k j) with
  | none=>(QdJ,false)
  | some q=>match field? x (upIx x k j) (fieldIx q f.Of) with | some g=>(g,true) | none=>(QdJ,false)
def Quo (g:Qb):Bool:=((((g.Kind==2)||(g.Kind==3))||(g.Kind==4))||(g.Kind==5))||(g.Kind==8)
/-- The error of a field whose name is not there twice. -/
def Qgf (x:Qa) (q:Qe) (k j:Int) (f:Qb):Int:=
 if f.Kind=0 then QaJ [⟨decide (j>0),13⟩]
 else if f.Kind=1 then QaJ [⟨decide (upIx x k j<0),12⟩]
 else if f.Kind=4 then QaJ [⟨(f.Of !=[])&&(((decide (fieldIx q f.Of<0))||(decide (fieldIx q f.Of≥j)))||((match field? x k (fieldIx q f.Of) with | some g=>(g,true) | none=>(QdJ,false)).1.Kind !=4)),12⟩]
 else if f.Kind=5 then QaJ [⟨!(x.Lives.any fun l=>l.Name==f.Of),12⟩]
 else if f.Kind=6 then QaJ [⟨decide ((QkI x k f).1<0),12⟩,⟨((QkI x k f).2.length:Int) !=1,11⟩]
 else if f.Kind=7 then QaJ [⟨decide (upIx x k j<0),12⟩,⟨((!(topS x k j f).2)||((topS x k j f).1.Kind !=6))||(kindIx x (topS x k j f).1.Of !=k),13⟩]
 else if f.Kind=8 then QaJ [⟨decide (upIx x k j<0),12⟩,⟨(!(topS x k j f).2)||(!Quo (topS x k j f).1),13⟩]
 else 0
theorem Qrd (x:Qa) (k j:Int) (hk:0≤k):upIx x k j<k∧-1≤upIx x k j:=by
 have hr:∀g,Qgc x k g<k∧-1≤Qgc x k g:=fun g=>by
  have:=Qkc x g.Of
  unfold Qgc;split<;>omega
 unfold upIx
 cases field? x k j with
 | none=>exact⟨by dsimp only;omega,by dsimp only;omega⟩
 | some f=>
  dsimp only
  split
  ·split
   ·omega
   ·split
    ·split
     ·split
      ·exact hr _
      ·omega
     ·omega
    ·omega
  ·split
   ·exact hr _
   ·omega
theorem Qup {x:Qa} {k j:Int} {f:Qb} (hx:Few x) (hk:0≤k) (hkl:k<x.Kinds.length):Qcn ⟨x,k,j,f⟩=some (topS x k j f):=by
 unfold Qcn topS
 rw[Qgd hx]
 simp only[Option.bind_some]
 by_cases hu:upIx x k j<0
 ·rw[if_pos (by simpa using hu),if_pos hu];rfl
 ·rw[if_neg (by simpa using hu),if_neg hu]
  have h1:=Qrd x k j hk
  obtain⟨q,hq,hqm⟩:=QgA (l:=x.Kinds) (i:=upIx x k j) (by omega) (by omega)
  rw[hq]
  simp only[Option.bind_some]
  rw[QbU (by have:=hx.2 q hqm;omega)]
  simp only[Option.bind_some]
  rw[Qjj]
  cases field? x (upIx x k j) (fieldIx q f.Of)<;>rfl
theorem Qm3 {x:Qa} {k j:Int} {f:Qb} (hx:Few x):QbK ⟨x,k,j,f⟩=some (decide (upIx x k j<0)):=by
 unfold QbK
 rw[Qgd hx];rfl
theorem Qwk {x:Qa} {k j:Int} {q:Qe} {f:Qb} (hx:Few x) (hl:x.Lives.length≤1000) (hq:idx x.Kinds k=some q) (hf:field? x k j=some f) (h:(Qbj f.Kind).isSome=true):Qkv (Qbz.mk (Qbj f.Kind)).check ⟨x,k,j,f⟩=some (Qgf x q k j f):=by
 obtain⟨q',hk,hj,hq',hqf,hqm,hkl,hjl⟩:=Qfw hf
 rw[hq] at hq';cases hq'
 have one:∀a,Qai [a]=some (QaJ [a]):=fun a=>QfY (by simp)
 have two:∀a b,Qai [a,b]=some (QaJ [a,b]):=fun a b=>QfY (by simp)
 unfold Qgf
 dsimp only
 by_cases c0:f.Kind=0
 ·rw[if_pos c0,c0]
  show Qdh _=_
  unfold Qdh;rw[one];rfl
 rw[if_neg c0]
 by_cases c1:f.Kind=1
 ·rw[if_pos c1,c1]
  show Qdi _=_
  unfold Qdi;rw[Qm3 hx];simp only[Option.bind_some];rw[one];rfl
 rw[if_neg c1]
 by_cases c4:f.Kind=4
 ·rw[if_pos c4,c4]
  show Qdj _=_
  unfold Qdj
  dsimp only
  rw[hq]
  simp only[Option.bind_some]
  rw[QbU (by have:=hx.2 q hqm;omega)]
  simp only[Option.bind_some]
  rw[Qjj]
  simp only[Option.bind_some]
  rw[one];rfl
 rw[if_neg c4]
 by_cases c5:f.Kind=5
 ·rw[if_pos c5,c5]
  show Qdk _=_
  unfold Qdk
  dsimp only
  rw[QhH (s:=x.Lives) (f:=fun x0=>QdG x0 ⟨x,k,j,f⟩) (p:=fun l=>l.Name==f.Of) (by omega) (fun l _=>rfl)]
  simp only[Option.bind_some]
  rw[one];rfl
 rw[if_neg c5]
 by_cases c6:f.Kind=6
 ·rw[if_pos c6]
  show Qkv (Qbj f.Kind) _=_
  rw[c6]
  show Qdl _=_
  unfold Qdl
  dsimp only
  rw[Qua hx hk]
  simp only[Option.bind_some]
  rw[two];rfl
 rw[if_neg c6]
 by_cases c7:f.Kind=7
 ·rw[if_pos c7]
  show Qkv (Qbj f.Kind) _=_
  rw[c7]
  show Qdm _=_
  unfold Qdm
  rw[Qup hx hk hkl,Qm3 hx]
  simp only[Option.bind_some]
  rw[Qcq (by have:=hx.1;omega)]
  cases hc:((!(topS x k j f).2)||((topS x k j f).1.Kind !=6)) with
  | true=>
   simp only[Sim.opt,Bool.true_or]
   show (Qai _).bind _=_
   rw[two];rfl
  | false=>
   simp only[Sim.opt,beq_self_eq_true,if_true,Option.bind_some]
   rw[two];rfl
 rw[if_neg c7]
 by_cases c8:f.Kind=8
 ·rw[if_pos c8]
  show Qkv (Qbj f.Kind) _=_
  rw[c8]
  show Qdn _=_
  unfold Qdn
  rw[Qup hx hk hkl,Qm3 hx]
  simp only[Option.bind_some]
  rw[two];rfl
 rw[Qbj,if_neg c0,if_neg c1,if_neg c4,if_neg c5,if_neg c6,if_neg c7,if_neg c8] at h
 cases h
theorem Qwl {x:Qa} {k j:Int} {q:Qe} {f:Qb} (h:(Qbj f.Kind).isSome=false):Qgf x q k j f=0:=by
 unfold Qgf
 by_cases c0:f.Kind=0
 ·rw[c0] at h;cases h
 by_cases c1:f.Kind=1
 ·rw[c1] at h;cases h
 by_cases c4:f.Kind=4
 ·rw[c4] at h;cases h
 by_cases c5:f.Kind=5
 ·rw[c5] at h;cases h
 by_cases c6:f.Kind=6
 ·rw[c6] at h;cases h
 by_cases c7:f.Kind=7
 ·rw[c7] at h;cases h
 by_cases c8:f.Kind=8
 ·rw[c8] at h;cases h
 rw[if_neg c0,if_neg c1,if_neg c4,if_neg c5,if_neg c6,if_neg c7,if_neg c8]
/-- The error of a kind. -/
def Qh2 (x:Qa) (i:Int) (q:Qe):Int:=QaJ [⟨decide (kindIx x q.Name<i),7⟩,⟨((q.Fields.length:Int)==0)||((q.Fields.headD QdJ).Kind !=0),11⟩]
theorem QyU {x:Qa} {i:Int} {q:Qe} (hx:Few x) (hq:idx x.Kinds i=some q):Qff x i=some (Qh2 x i q):=by
 unfold Qff Qh2
 rw[hq]
 simp only[Option.bind_some]
 rw[Qcq (by have:=hx.1;omega)]
 simp only[Option.bind_some]
 cases hf:q.Fields with
 | nil=>
  show (Qai _).bind _=_
  rw[QfY (by simp)];rfl
 | cons f fs=>
  have e:(((f::fs).length:Int)==0)=false:=by simp;omega
  rw[e]
  simp only[Sim.opt,beq_self_eq_true,if_true]
  rw[show idx (f::fs) (0:Int)=some f from rfl]
  simp only[Option.bind_some]
  rw[QfY (by simp)];rfl
/-- The error of a rule. -/
def QhK (x:Qa) (k:Int) (n:Str):Qb×Bool:=match idx x.Kinds k with | none=>(QdJ,false) | some q=>match field? x k (fieldIx q n) with | some g=>(g,true) | none=>(QdJ,false)
def Qez (x:Qa) (k:Int) (n:Str):Bool:=!((n==[])||decide (k<0))&&!(QhK x k n).2
def Qeh (x:Qa) (k:Int) (n:Str):Bool:=!((n==[])||decide (k<0))&&(((QhK x k n).1.Kind !=2)&&((QhK x k n).1.Kind !=4))
def Qhc (x:Qa) (i:Nat) (r:Qj):Int:=
 QaJ [⟨(x.Rules.take i).any fun s=>s.Name==r.Name,7⟩,⟨(decide (kindIx x r.Kind<0)||Qez x (kindIx x r.Kind) r.A)||Qez x (kindIx x r.Kind) r.B,12⟩,⟨Qeh x (kindIx x r.Kind) r.A||Qeh x (kindIx x r.Kind) r.B,13⟩,⟨r.A==r.B,1⟩]
theorem QnE {β:Type} {x:Qa} {k:Int} {n:Str} {a b:Bool} (hx:Few x) (hk:k<x.Kinds.length) (g:Bool×Bool→β):
  (if ((n==([]:Str))||(decide (k<0)))=true then some (g (a,b)) else (idx x.Kinds k).bind fun t53=>(Qbh t53 n).bind fun t56=>(Qcw x k t56).bind fun t57=>some (g ((a||(!t57.2)),(b||((t57.1.Kind !=2)&&(t57.1.Kind !=4))))))=some (g (a||Qez x k n,b||Qeh x k n)):=by
 unfold Qez Qeh
 cases hc:((n==([]:Str))||(decide (k<0))) with
 | true=>rw[if_pos rfl];simp
 | false=>
  rw[if_neg (by decide)]
  simp only[Bool.or_eq_false_iff,decide_eq_false_iff_not] at hc
  obtain⟨q,hq,hqm⟩:=QgA (l:=x.Kinds) (i:=k) (by omega) hk
  unfold QhK
  rw[hq]
  simp only[Option.bind_some]
  rw[QbU (by have:=hx.2 q hqm;omega)]
  simp only[Option.bind_some]
  rw[Qjj]
  cases field? x k (fieldIx q n)<;>simp
end Go.Proofs.YtlajingmjmnfgaaGreatDoor
namespace Go.Proofs.YtlajingmjmnfgaaGreatDoor
open Go.Sim
theorem QyV {x:Qa} {i:Nat} {r:Qj} (hx:Few x) (hl:x.Rules.length≤1000) (hi:i<x.Rules.length) (hr:x.Rules[i]?=some r):Qfg x (i:Int)=some (Qhc x i r):=by
 unfold Qfg
 rw[QaU,hr]
 simp only[Option.bind_some]
 have hs:Sim.sub x.Rules 0 (i:Int)=some (x.Rules.take i):=by
  unfold Sim.sub
  rw[if_pos ⟨by decide,by omega,by omega⟩];simp
 rw[hs]
 simp only[Option.bind_some]
 rw[Qkd (f:=fun x0=>Qfu x0 r) (p:=fun s=>s.Name==r.Name) (by rw[length_take];omega) (fun s _=>rfl)]
 simp only[Option.bind_some]
 rw[Qcq (by have:=hx.1;omega)]
 simp only[Option.bind_some]
 have hk:=(Qkc x r.Kind).2
 let st:Nat→Int×Bool×Bool:=fun n=>match n with
  | 0=>(0,decide (kindIx x r.Kind<0),false)
  | 1=>(1,decide (kindIx x r.Kind<0)||Qez x (kindIx x r.Kind) r.A,false||Qeh x (kindIx x r.Kind) r.A)
  | _=>(2,(decide (kindIx x r.Kind<0)||Qez x (kindIx x r.Kind) r.A)||Qez x (kindIx x r.Kind) r.B,(false||Qeh x (kindIx x r.Kind) r.A)||Qeh x (kindIx x r.Kind) r.B)
 refine Qeu 2 st ((st 2).2.1,(st 2).2.2) rfl (fun n hn=>?_) rfl ?_
 ·have:n=0∨n=1:=by omega
  rcases this with rfl | rfl
  ·have h:=QnE (x:=x) (k:=kindIx x r.Kind) (n:=r.A) (a:=decide (kindIx x r.Kind<0)) (b:=false) hx hk id
   show (Option.bind (if _ then _ else _) _:Option _)=_
   exact (congrArg (fun o=>Option.bind o (fun p55:Bool×Bool=>some (Sum.inl ((i64.wrap ((0:Int)+(1:Int))),p55.1,p55.2)))) h:_)
  ·have h:=QnE (x:=x) (k:=kindIx x r.Kind) (n:=r.B) (a:=decide (kindIx x r.Kind<0)||Qez x (kindIx x r.Kind) r.A) (b:=false||Qeh x (kindIx x r.Kind) r.A) hx hk id
   show (Option.bind (if _ then _ else _) _:Option _)=_
   exact (congrArg (fun o=>Option.bind o (fun p55:Bool×Bool=>some (Sum.inl ((i64.wrap ((1:Int)+(1:Int))),p55.1,p55.2)))) h:_)
 ·dsimp only
  rw[QfY (by simp)]
  simp[st,Qhc]
/-- A loop that collects. -/
theorem QeA {β:Type} (n:Nat) (g:Nat→List β) (B:Nat) (hB:∀k,k<n→(g k).length≤B) (a0:List β) {body:Int×List β→Option ((Int×List β)⊕List β)}
  (hs:∀k,k<n→∀acc:List β,acc.length≤a0.length+k * B→body ((k:Int),acc)=some (.inl (((k+1:Nat):Int),acc++g k))) (he:∀acc,body ((n:Int),acc)=some (.inr acc)):
  Qo body ((0:Int),a0)=some (a0++(range n).flatMap g):=by
 have hlen:∀m,m≤n→((range m).flatMap g).length≤m * B:=fun m=>by
  induction m with
  | zero=>intro _;simp
  | succ m ih=>
   intro hm
   rw[range_succ,flatMap_append,length_append,Nat.succ_mul]
   have h1:=ih (by omega)
   have h2:=hB m (by omega)
   simp only[flatMap_cons,flatMap_nil,append_nil]
   omega
 have h:=Qca (body:=body) n (fun m=>((m:Int),a0++(range m).flatMap g)) (a0++(range n).flatMap g) (fun k hk=>?_) ?_
 ·simpa using h
 ·rw[hs k hk _ (by rw[length_append];have:=hlen k (by omega);omega),range_succ,flatMap_append]
  simp
 ·rw[he]
def prob (k j r e:Int):List Qq:=if e=0 then [] else [⟨k,j,r,e⟩]
theorem QhL (k j r e:Int):(prob k j r e).length≤1:=by unfold prob;split<;>simp
theorem Qml {k j r e:Int} {l:List Qq} (h:l.length≤1000000000):QbR k j r e l=some (l++prob k j r e):=by
 unfold QbR prob
 by_cases he:e=0
 ·rw[if_neg (by simp[he]),if_pos he,append_nil];rfl
 ·rw[if_pos (by simpa using he),if_neg he,Qcj (by rw[length_singleton];omega)];rfl
def lifeE (x:Qa) (i:Nat) (l:Qw):Int:=QaJ [⟨(x.Lives.take i).any fun m=>m.Name==l.Name,7⟩]
def QhM (x:Qa) (q:Qe) (k j:Int) (f:Qb):Int:=if fieldIx q f.Name<j then 7 else Qgf x q k j f
def Qhd (x:Qa) (i:Nat):List Qq:=match x.Lives[i]? with | some l=>prob (-1) (i:Int) (-1) (lifeE x i l) | none=>[]
def QfK (x:Qa) (i:Nat) (q:Qe) (j:Nat):List Qq:=match q.Fields[j]? with | some f=>prob (i:Int) (j:Int) (-1) (QhM x q (i:Int) (j:Int) f) | none=>[]
def QiH (x:Qa) (i:Nat) (q:Qe):List Qq:=(range q.Fields.length).flatMap (QfK x i q)
def Qgg (x:Qa) (i:Nat):List Qq:=match x.Kinds[i]? with | some q=>prob (i:Int) (-1) (-1) (Qh2 x (i:Int) q)++QiH x i q | none=>[]
def Qh3 (x:Qa) (i:Nat):List Qq:=match x.Rules[i]? with | some r=>prob (-1) (-1) (i:Int) (Qhc x i r) | none=>[]
def QfL (x:Qa):List Qq:=(range x.Lives.length).flatMap (Qhd x)
def QgR (x:Qa):List Qq:=(range x.Kinds.length).flatMap (Qgg x)
def Qpl (x:Qa):List Qq:=(range x.Rules.length).flatMap (Qh3 x)
theorem QnF (x:Qa) (i:Nat):(Qhd x i).length≤1:=by unfold Qhd;cases x.Lives[i]? with | none=>simp | some f=>exact QhL _ _ _ _
theorem Qmm (x:Qa) (i:Nat) (q:Qe) (j:Nat):(QfK x i q j).length≤1:=by unfold QfK;cases q.Fields[j]? with | none=>simp | some f=>exact QhL _ _ _ _
theorem Quq (x:Qa) (i:Nat):(Qh3 x i).length≤1:=by unfold Qh3;cases x.Rules[i]? with | none=>simp | some f=>exact QhL _ _ _ _
/-- All problems. -/
def QP (x:Qa):List Qq:=if QfJ x=0 then QfL x++QgR x++Qpl x else [⟨-1,-1,-1,QfJ x⟩]
theorem Qbm {β:Type} (n:Nat) (g:Nat→List β) (B:Nat) (hB:∀k,k<n→(g k).length≤B):((range n).flatMap g).length≤n * B:=by
 induction n with
 | zero=>simp
 | succ n ih=>
  rw[range_succ,flatMap_append,length_append,Nat.succ_mul]
  have h1:=ih fun k hk=>hB k (by omega)
  have h2:=hB n (by omega)
  simp only[flatMap_cons,flatMap_nil,append_nil]
  omega
/-- What Check needs of a schema: its lists are short. -/
structure QeB (x:Qa):Prop where
 few:Few x
 fine:Fine x
 lives:x.Lives.length≤1000
 rules:x.Rules.length≤1000
theorem Sz.short {x:Qa} (h:Sz x):QeB x:=⟨h.few,h.fine,by have:=h.2.1.1;omega,by have:=h.2.2.1;omega⟩
theorem Qqp {x:Qa} {i:Nat} {q:Qe} (h:q.Fields.length≤1000):(QiH x i q).length≤1000:=by
 have:=Qbm q.Fields.length (QfK x i q) 1 (fun j _=>Qmm x i q j)
 unfold QiH;omega
theorem Qpm {x:Qa} (h:QeB x):Qdy x=some (QP x):=by
 obtain⟨hx,hfine,hlv,hrl⟩:=h
 unfold Qdy
 rw[Qwj hfine]
 simp only[Option.bind_some]
 unfold QP
 by_cases hv:QfJ x=0
 ·rw[if_neg (by simp[hv]),if_pos hv]
  have b1:(QfL x).length≤1000:=by
   have:=Qbm x.Lives.length (Qhd x) 1 (fun j _=>QnF x j)
   unfold QfL;omega
  have kl:∀k,k<x.Kinds.length→(Qgg x k).length≤1001:=fun k hk=>by
   unfold Qgg
   rw[getElem?_eq_getElem hk]
   dsimp only
   have:=Qqp (x:=x) (i:=k) (hx.2 _ (getElem_mem hk))
   have:=QhL k (-1) (-1) (Qh2 x k x.Kinds[k])
   rw[length_append];omega
  have b2:(QgR x).length≤1001000:=by
   have:=Qbm x.Kinds.length _ 1001 kl
   have:=hx.1
   unfold QgR;omega
  have hk1:=hx.1
  rw[QeA x.Lives.length (Qhd x) 1 (fun j _=>QnF x j) [] (fun k hk acc hacc=>?_) (fun acc=>if_neg (by simp))]
  ·rw[show ([]:List Qq)++(range x.Lives.length).flatMap (Qhd x)=QfL x from rfl]
   simp only[Option.bind_some]
   rw[QeA x.Kinds.length (Qgg x) 1001 kl (QfL x) (fun k hk acc hacc=>?_) (fun acc=>if_neg (by simp))]
   ·rw[show QfL x++(range x.Kinds.length).flatMap (Qgg x)=QfL x++QgR x from rfl]
    simp only[Option.bind_some]
    rw[QeA x.Rules.length (Qh3 x) 1 (fun j _=>Quq x j) (QfL x++QgR x) (fun k hk acc hacc=>?_) (fun acc=>if_neg (by simp))]
    ·rfl
    ·rw[length_append] at hacc
     rw[if_pos (by simpa using hk)]
     dsimp only
     rw[QyV hx hrl hk (getElem?_eq_getElem hk)]
     simp only[Option.bind_some]
     rw[Qml (by omega)]
     simp only[Option.bind_some]
     unfold Qh3
     rw[QK hk (by omega),getElem?_eq_getElem hk]
   ·have hq:=QY hk
    have hqf:=hx.2 _ (getElem_mem hk)
    rw[if_pos (by simpa using hk)]
    dsimp only
    rw[hq]
    simp only[Option.bind_some]
    rw[QyU hx hq]
    simp only[Option.bind_some]
    rw[Qml (by omega)]
    simp only[Option.bind_some]
    have pl:=QhL k (-1) (-1) (Qh2 x k x.Kinds[k])
    rw[QeA x.Kinds[k].Fields.length (QfK x k x.Kinds[k]) 1 (fun j _=>Qmm x k _ j) _ (fun j hj acc2 hacc2=>?_) (fun acc=>if_neg (by simp))]
    ·simp only[Option.bind_some]
     unfold Qgg
     rw[QK hk (by omega),getElem?_eq_getElem hk,append_assoc]
     rfl
    ·rw[length_append] at hacc2
     rw[if_pos (by simpa using hj)]
     dsimp only
     rw[QY hj]
     simp only[Option.bind_some]
     rw[QbU (by omega)]
     simp only[Option.bind_some]
     rw[QfY (by simp)]
     simp only[Option.bind_some]
     have hf:field? x (k:Int) (j:Int)=some x.Kinds[k].Fields[j]:=Qlo (by omega) (by omega) hq (QY hj)
     have e:(if ((Qbj x.Kinds[k].Fields[j].Kind).isSome&&(QaJ [⟨decide (fieldIx x.Kinds[k] x.Kinds[k].Fields[j].Name<(j:Int)),7⟩]==0))=true then (Qkv (Qbz.mk (Qbj x.Kinds[k].Fields[j].Kind)).check ⟨x,k,j,x.Kinds[k].Fields[j]⟩).bind fun t97=>some t97 else some (QaJ [⟨decide (fieldIx x.Kinds[k] x.Kinds[k].Fields[j].Name<(j:Int)),7⟩]))=some (QhM x x.Kinds[k] k j x.Kinds[k].Fields[j]):=by
      unfold QhM
      by_cases hd:fieldIx x.Kinds[k] x.Kinds[k].Fields[j].Name<(j:Int)
      ·rw[if_pos hd,if_neg (by simp[QaJ,hd])]
       simp[QaJ,hd]
      ·rw[if_neg hd]
       have e0:QaJ [⟨decide (fieldIx x.Kinds[k] x.Kinds[k].Fields[j].Name<(j:Int)),7⟩]=0:=by simp[QaJ,hd]
       rw[e0]
       cases hs:(Qbj x.Kinds[k].Fields[j].Kind).isSome with
       | true=>rw[if_pos (by simp),Qwk hx hlv hq hf hs];rfl
       | false=>rw[if_neg (by simp),Qwl hs]
     rw[e]
     simp only[Option.bind_some]
     rw[Qml (by omega)]
     simp only[Option.bind_some]
     unfold QfK
     rw[QK hj (by omega),getElem?_eq_getElem hj]
  ·rw[length_nil] at hacc
   rw[if_pos (by simpa using hk)]
   dsimp only
   rw[QY hk]
   simp only[Option.bind_some]
   have hs:Sim.sub x.Lives 0 (k:Int)=some (x.Lives.take k):=by
    unfold Sim.sub
    rw[if_pos ⟨by decide,by omega,by omega⟩];simp
   rw[hs]
   simp only[Option.bind_some]
   rw[QhH (f:=fun x0=>QeY x0 x.Lives[k]) (p:=fun m=>m.Name==x.Lives[k].Name) (by rw[length_take];omega) (fun l _=>rfl)]
   simp only[Option.bind_some]
   rw[QfY (by simp)]
   simp only[Option.bind_some]
   rw[Qml (by omega)]
   simp only[Option.bind_some]
   unfold Qhd
   rw[QK hk (by omega),getElem?_eq_getElem hk]
   rfl
 ·rw[if_pos (by simpa using hv),if_neg hv]
end Go.Proofs.YtlajingmjmnfgaaGreatDoor
namespace Go.Proofs.YtlajingmjmnfgaaGreatDoor
open Go.Sim
end Go.Proofs.YtlajingmjmnfgaaGreatDoor
namespace Go.Proofs.YtlajingmjmnfgaaGreatDoor
open Go.Sim
end Go.Proofs.YtlajingmjmnfgaaGreatDoor
namespace Go.Proofs.YtlajingmjmnfgaaGreatDoor
open Go.Sim
end Go.Proofs.YtlajingmjmnfgaaGreatDoor
namespace Go.Proofs.YtlajingmjmnfgaaGreatDoor
open Go.Sim
end Go.Proofs.YtlajingmjmnfgaaGreatDoor
namespace Go.Proofs.YtlajingmjmnfgaaGreatDoor
open Go.Sim
end Go.Proofs.YtlajingmjmnfgaaGreatDoor
namespace Go.Proofs.YtlajingmjmnfgaaGreatDoor
open Go.Sim
end Go.Proofs.YtlajingmjmnfgaaGreatDoor
namespace Go.Proofs.YtlajingmjmnfgaaGreatDoor
open Go.Sim
end Go.Proofs.YtlajingmjmnfgaaGreatDoor
namespace Go.Proofs.YtlajingmjmnfgaaGreatDoor
open Go.Sim
end Go.Proofs.YtlajingmjmnfgaaGreatDoor
namespace Go.Proofs.YtlajingmjmnfgaaGreatDoor
open Go.Sim
end Go.Proofs.YtlajingmjmnfgaaGreatDoor
namespace Go.Proofs.YtlajingmjmnfgaaGreatDoor
open Go.Sim
end Go.Proofs.YtlajingmjmnfgaaGreatDoor
namespace Go.Proofs.YtlajingmjmnfgaaGreatDoor
open Go.Sim
end Go.Proofs.YtlajingmjmnfgaaGreatDoor
namespace Go.Proofs.YtlajingmjmnfgaaGreatDoor
open Go.Sim
end Go.Proofs.YtlajingmjmnfgaaGreatDoor
namespace Go.Proofs.YtlajingmjmnfgaaGreatDoor
open Go.Sim
end Go.Proofs.YtlajingmjmnfgaaGreatDoor
namespace Go.Proofs.YtlajingmjmnfgaaGreatDoor
open Go.Sim
end Go.Proofs.YtlajingmjmnfgaaGreatDoor
namespace Go.Proofs.YtlajingmjmnfgaaGreatDoor
open Go.Sim
end Go.Proofs.YtlajingmjmnfgaaGreatDoor

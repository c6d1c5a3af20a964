/- Package core: the rules about records of a kind that contradict each other. No condition. -/
import Derived.Test.YtlajingmjmnfgaaGreatDoorCtI
import Derived.Test.YtlajingmjmnfgaaGreatDoorCtA
import Derived.Test.YtlajingmjmnfgaaGreatDoorCoA
set_option linter.all false
open List Go.IntKind
namespace Go.Proofs.YtlajingmjmnfgaaGreatDoor
open Go.Sim
def d0T:Dt:=(0,[],⟨0,0,0⟩)
def dK (x:Qa) (i:Nat):Int:=((Qap x).getD i d0T).1
def dD (x:Qa) (i:Nat):QM:=((Qap x).getD i d0T).2.2
def flen (x:Qa) (k:Int):Nat:=match idx x.Kinds k with | some q=>q.Fields.length | none=>0
def ownI (x:Qa) (k:Int) (p:Nat→Bool):List Nat:=(range (Qap x).length).filter fun i=>dK x i==k&&p i
def ownD (x:Qa) (k:Int) (p:Nat→Bool):List QM:=(ownI x k p).map (dD x)
def cycN (x:Qa) (k:Int) (p:Nat→Bool):List Nat:=(cycS (flen x k:Int) (ownD x k p)).1.map fun c=>(ownI x k p).getD c.toNat 0
/-- A difference that is valid for n values. -/
def DOk (n:Nat) (d:QM):Prop:=-1≤d.A∧d.A<n∧-1≤d.B∧d.B<n∧d.A≠d.B∧-2097152≤d.N∧d.N≤2097152
theorem QlA {f:Qb} (h:fieldS f=true) (hk:f.Kind=2∨f.Kind=4):-1048576≤f.Lo∧f.Lo≤f.Hi∧f.Hi≤1048576:=by
 simp only[fieldS,Bool.and_eq_true] at h
 have h:=h.2
 unfold Qdt at h
 rcases hk with hk | hk
 ·rw[if_neg (by omega),if_neg (by omega),if_pos hk] at h
  exact Qcg h
 ·rw[if_neg (by omega),if_neg (by omega),if_neg (by omega),if_neg (by omega),if_pos hk,Bool.and_eq_true] at h
  exact Qcg h.2
theorem QpI {x:Qa} {i j:Nat} (hi:i<x.Kinds.length) (hj:j<x.Kinds[i].Fields.length):field? x (i:Int) (j:Int)=some x.Kinds[i].Fields[j]:=by
 unfold field?
 rw[if_pos ⟨by omega,by omega⟩,Int.toNat_natCast,Int.toNat_natCast,getElem?_eq_getElem hi,Option.bind_some,getElem?_eq_getElem hj]
theorem of_ok {x:Qa} (hc:QP x=[]) {i j:Nat} (hi:i<x.Kinds.length) (hj:j<x.Kinds[i].Fields.length):-1≤ofIx x.Kinds[i] x.Kinds[i].Fields[j]∧ofIx x.Kinds[i] x.Kinds[i].Fields[j]<(j:Int):=by
 unfold ofIx
 split
 ·next h=>
  simp only[Bool.and_eq_true,beq_iff_eq,bne_iff_ne,ne_eq] at h
  have hl:=clean hc (QY hi) (QpI hi hj)
  unfold Qgf at hl
  rw[if_neg (by omega),if_neg (by omega),if_pos h.1] at hl
  have h2:=(Qb0 hl (by decide)).1
  have hne:(x.Kinds[i].Fields[j].Of !=[])=true:=bne_iff_ne.2 h.2
  rw[hne,Bool.true_and] at h2
  simp only[Bool.or_eq_false_iff,decide_eq_false_iff_not] at h2
  exact⟨by omega,by omega⟩
 ·omega
theorem Qms {x:Qa} {r:Qj} {n:Str} (hm:Qez x (kindIx x r.Kind) n=false) (h0:0≤kindIx x r.Kind) (hn:n≠[]) {q:Qe} (hq:idx x.Kinds (kindIx x r.Kind)=some q):0≤fieldIx q n:=by
 unfold Qez at hm
 have e:((n==[])||decide (kindIx x r.Kind<0))=false:=by
  simp only[Bool.or_eq_false_iff,decide_eq_false_iff_not,beq_eq_false_iff_ne];exact⟨hn,by omega⟩
 rw[e] at hm
 simp only[Bool.not_false,Bool.true_and,Bool.not_eq_false'] at hm
 unfold QhK at hm
 rw[hq] at hm
 dsimp only at hm
 cases hf:field? x (kindIx x r.Kind) (fieldIx q n) with
 | none=>rw[hf] at hm;cases hm
 | some g=>obtain⟨_,_,hj,_⟩:=Qfw hf;exact hj
theorem QhO {q:Qe} {n:Str} (h:0≤fieldIx q n):∃f,idx q.Fields (fieldIx q n)=some f∧f.Name=n:=by
 unfold fieldIx Qau at h ⊢
 cases hf:q.Fields.findIdx? fun f=>f.Name==n with
 | none=>rw[hf] at h;dsimp only at h;omega
 | some k=>
  dsimp only
  obtain⟨hk,hp,_⟩:=findIdx?_eq_some_iff_getElem.1 hf
  exact⟨q.Fields[k],QY hk,by simpa using hp⟩
theorem Qqs {q:Qe} (hq:kindS q=true):fieldIx q []=-1:=by
 rcases Int.lt_or_le (fieldIx q []) 0 with h | h
 ·have:=(Qfv q.Fields fun f=>f.Name==([]:Str)).1
  unfold fieldIx at h ⊢;omega
 ·obtain⟨f,hf,hn⟩:=QhO h
  have hF:=(Qcl hq).2.2 f (by
   obtain⟨k,hk⟩:=Int.eq_ofNat_of_zero_le h
   rw[hk,QaU] at hf
   exact mem_of_getElem? hf)
  simp only[fieldS,Bool.and_eq_true] at hF
  have:=hF.1.1
  rw[hn] at this
  exact absurd this (by decide)
theorem QjE (q:Qe) (n:Str):-1≤fieldIx q n∧fieldIx q n<q.Fields.length:=Qfv q.Fields _
theorem Qy0 {x:Qa} (hc:QP x=[]):∀t∈Qap x,∃q,0≤t.1∧idx x.Kinds t.1=some q∧DOk q.Fields.length t.2.2:=by
 intro t ht
 have hv:=Qal hc
 unfold Qap at ht
 rcases mem_append.1 ht with ht | ht
 ·obtain⟨i,hi,ht⟩:=mem_flatMap.1 ht
  rw[mem_range] at hi
  unfold kndT at ht
  rw[getElem?_eq_getElem hi] at ht
  obtain⟨j,hj,ht⟩:=mem_flatMap.1 ht
  rw[mem_range] at hj
  unfold fldT at ht
  rw[getElem?_eq_getElem hj] at ht
  dsimp only at ht
  obtain⟨o0,o1⟩:=of_ok hc hi hj
  split at ht
  ·cases ht
  ·next hk=>
   have hk':x.Kinds[i].Fields[j].Kind=2∨x.Kinds[i].Fields[j].Kind=4:=by
    simp only[Bool.and_eq_true,bne_iff_ne,ne_eq,not_and,Classical.not_not] at hk
    by_cases h2:x.Kinds[i].Fields[j].Kind=2
    ·exact .inl h2
    ·exact .inr (hk h2)
   have hp:=QlA ((Qcl (hv.kind _ (getElem_mem hi))).2.2 _ (getElem_mem hj)) hk'
   have hw:i64.wrap (0 - x.Kinds[i].Fields[j].Lo)=0 - x.Kinds[i].Fields[j].Lo:=w64 (by omega) (by omega)
   simp only[mem_cons,not_mem_nil,or_false] at ht
   refine⟨x.Kinds[i],?_⟩
   rcases ht with rfl | rfl
   ·exact⟨by dsimp only;omega,QY hi,o0,by dsimp only;omega,by dsimp only;omega,by dsimp only;omega,by dsimp only;omega,by dsimp only;rw[hw];omega,by dsimp only;rw[hw];omega⟩
   ·exact⟨by dsimp only;omega,QY hi,by dsimp only;omega,by dsimp only;omega,o0,by dsimp only;omega,by dsimp only;omega,by dsimp only;omega,by dsimp only;omega⟩
 ·obtain⟨i,hi,ht⟩:=mem_flatMap.1 ht
  rw[mem_range] at hi
  have hr:=getElem?_eq_getElem hi
  obtain⟨q,hq0,hq,hm⟩:=QgT hc hr
  unfold rulT at ht
  rw[hr] at ht
  dsimp only at ht
  rw[hq] at ht
  dsimp only at ht
  obtain rfl:=mem_singleton.1 ht
  have hz:=Qkh hc hr
  unfold Qhc at hz
  have z1:=(Qb0 hz (by decide)).2
  have z2:=Qb0 z1 (by decide)
  have z3:=Qb0 z2.2 (by decide)
  have z4:=Qb0 z3.2 (by decide)
  have hne:x.Rules[i].A≠x.Rules[i].B:=by simpa using z4.1
  have hmiss:=z2.1
  simp only[Bool.or_eq_false_iff] at hmiss
  have hR:=hv.rule _ (getElem_mem hi)
  have hn:-1048576≤x.Rules[i].N∧x.Rules[i].N≤1048576:=by
   simp only[Qck,Bool.and_eq_true] at hR
   exact QbD hR.2
  have a:=QjE q x.Rules[i].A
  have b:=QjE q x.Rules[i].B
  refine⟨q,hq0,hq,a.1,a.2,b.1,b.2,fun e=>?_,by dsimp only;omega,by dsimp only;omega⟩
  dsimp only at e
  by_cases hA:x.Rules[i].A=[]
  ·have h1:fieldIx q x.Rules[i].A=-1:=by rw[hA];exact Qqs (hv.kind q hm)
   have h2:=Qms hmiss.2 hq0 (fun h=>hne (hA.trans h.symm)) hq
   omega
  ·have h1:=Qms hmiss.1.2 hq0 hA hq
   obtain⟨f,hf,hfn⟩:=QhO h1
   rw[e] at hf
   obtain⟨g,hg,hgn⟩:=QhO (q:=q) (n:=x.Rules[i].B) (by omega)
   rw[hg] at hf
   obtain rfl:=Option.some.inj hf
   exact hne (hfn.symm.trans hgn)
/-! How many rules a kind has -/
theorem QnM {α:Type} (F:Nat→List α) (key:α→Int) (hF:∀i,∀a∈F i,key a=(i:Int)) (k:Int) (B:Nat):∀n,(∀i,i<n→(F i).length≤B)→(((range n).flatMap F).filter fun a=>key a==k).length≤if k<n then B else 0
 | 0,_=>by simp
 | n+1,h=>by
  have ih:=QnM F key hF k B n fun i hi=>h i (by omega)
  rw[range_succ,flatMap_append,filter_append,length_append,flatMap_singleton]
  have hn:=h n (by omega)
  by_cases e:(n:Int)=k
  ·have h1:((F n).filter fun a=>key a==k).length≤(F n).length:=length_filter_le _ _
   rw[if_neg (by omega)] at ih
   rw[if_pos (by omega)]
   omega
  ·have h1:((F n).filter fun a=>key a==k)=[]:=by
    rw[filter_eq_nil_iff]
    intro a ha
    rw[hF n a ha]
    simpa using e
   rw[h1,length_nil]
   by_cases h2:k<n
   ·rw[if_pos h2] at ih;rw[if_pos (by omega)];omega
   ·rw[if_neg h2] at ih;rw[if_neg (by omega)];omega
theorem Qy1 (x:Qa) (i:Nat):∀t∈kndT x i,t.1=(i:Int):=by
 intro t ht
 unfold kndT at ht
 cases hq:x.Kinds[i]? with
 | none=>rw[hq] at ht;cases ht
 | some q=>
  rw[hq] at ht
  obtain⟨j,_,ht⟩:=mem_flatMap.1 ht
  unfold fldT at ht
  cases hf:q.Fields[j]? with
  | none=>rw[hf] at ht;cases ht
  | some f=>
   rw[hf] at ht
   dsimp only at ht
   split at ht
   ·cases ht
   ·simp only[mem_cons,not_mem_nil,or_false] at ht
    rcases ht with rfl | rfl<;>rfl
theorem QpJ {α:Type} (l:List α) (d:α) (p:α→Bool):((range l.length).filter fun i=>p (l.getD i d)).length=(l.filter p).length:=by
 have e:l=(range l.length).map fun i=>l.getD i d:=by
  refine ext_getElem (by simp) fun i h1 h2=>?_
  simp[getD_eq_getElem?_getD,h1]
 have:=congrArg (fun m=>(m.filter p).length) e
 rw[this,filter_map,length_map];rfl
theorem Qjt {x:Qa} {k:Int} {p:Nat→Bool} {i:Nat}:i∈ownI x k p↔i<(Qap x).length∧dK x i=k∧p i=true:=by
 unfold ownI
 rw[mem_filter,mem_range]
 simp
theorem Qwz {x:Qa} (hv:QeU x) (k:Int) (p:Nat→Bool):(ownI x k p).length≤36:=by
 have h1:(ownI x k p).length≤((range (Qap x).length).filter fun i=>((Qap x).getD i d0T).1==k).length:=by
  unfold ownI
  have:((range (Qap x).length).filter fun i=>dK x i==k&&p i)=(((range (Qap x).length).filter fun i=>((Qap x).getD i d0T).1==k).filter p):=by
   rw[filter_filter]
   congr 1
   funext i
   unfold dK
   exact Bool.and_comm _ _
  rw[this]
  exact length_filter_le _ _
 rw[QpJ (Qap x) d0T (fun t=>t.1==k)] at h1
 unfold Qap at h1
 rw[filter_append,length_append] at h1
 have h2:=QnM (kndT x) (fun t=>t.1) (Qy1 x) k 20 x.Kinds.length fun i _=>Qjn hv i
 have h3:(((range x.Rules.length).flatMap (rulT x)).filter fun t=>t.1==k).length≤((range x.Rules.length).flatMap (rulT x)).length:=length_filter_le _ _
 have h4:=Qbm x.Rules.length (rulT x) 1 fun j _=>Qlr x j
 have h5:=hv.rules
 split at h2<;>omega
theorem QgV {x:Qa} {i:Nat} (h:i<(Qap x).length):(Qap x).getD i d0T=(Qap x)[i]:=by rw[getD_eq_getElem?_getD,getElem?_eq_getElem h];rfl
theorem QgW {x:Qa} (hc:QP x=[]) {k:Int} (k0:0≤k) (k1:k<x.Kinds.length) (p:Nat→Bool):Qzz (flen x k+1) (ownD x k p):=by
 have hv:=Qal hc
 obtain⟨i,rfl⟩:=Int.eq_ofNat_of_zero_le k0
 have hi:i<x.Kinds.length:=by omega
 have hf:flen x (i:Int)=x.Kinds[i].Fields.length:=by unfold flen;rw[QY hi]
 have hf10:=(Qcl (hv.kind _ (getElem_mem hi))).2.1
 refine⟨by omega,by rw[hf];omega,?_,fun d hd=>?_⟩
 ·unfold ownD
  rw[length_map]
  have:=Qwz hv (i:Int) p
  omega
 ·obtain⟨j,hj,rfl⟩:=mem_map.1 hd
  obtain⟨h1,h2,_⟩:=Qjt.1 hj
  obtain⟨q,_,hq,hd⟩:=Qy0 hc _ (getElem_mem h1)
  unfold dK at h2
  rw[QgV h1] at h2
  rw[h2,QY hi] at hq
  obtain rfl:=Option.some.inj hq
  unfold dD
  rw[QgV h1,hf]
  obtain⟨a1,a2,a3,a4,a5,a6,a7⟩:=hd
  exact⟨a1,by omega,a3,by omega,a5,a6,a7⟩
/-- Some rules of a kind contradict each other. -/
def NegK (x:Qa) (k:Int) (I:Nat→Prop):Prop:=∃i es,walk i i es∧esum es<0∧∀e∈es,∃j,j<(Qap x).length∧dK x j=k∧I j∧e=edN (flen x k+1) (dD x j)
theorem NegK.mono {x:Qa} {k:Int} {I J:Nat→Prop} (h:NegK x k I) (hIJ:∀j,dK x j=k→I j→J j):NegK x k J:=by
 obtain⟨i,es,h1,h2,h3⟩:=h
 refine⟨i,es,h1,h2,fun e he=>?_⟩
 obtain⟨j,j1,j2,j3,j4⟩:=h3 e he
 exact⟨j,j1,j2,hIJ j j2 j3,j4⟩
theorem Qy2 {x:Qa} (hc:QP x=[]) {k:Int} (k0:0≤k) (k1:k<x.Kinds.length) (p:Nat→Bool):NegE (flen x k+1) (ownD x k p)↔NegK x k fun j=>p j=true:=by
 constructor
 ·rintro ⟨i,es,h1,h2,h3⟩
  refine⟨i,es,h1,h2,fun e he=>?_⟩
  obtain⟨d,hd,rfl⟩:=mem_map.1 (h3 e he)
  obtain⟨j,hj,rfl⟩:=mem_map.1 hd
  obtain⟨j1,j2,j3⟩:=Qjt.1 hj
  exact⟨j,j1,j2,j3,rfl⟩
 ·rintro ⟨i,es,h1,h2,h3⟩
  refine⟨i,es,h1,h2,fun e he=>?_⟩
  obtain⟨j,j1,j2,j3,rfl⟩:=h3 e he
  exact mem_map_of_mem (mem_map_of_mem (Qjt.2 ⟨j1,j2,j3⟩))
theorem QlB {x:Qa} (hc:QP x=[]) {k:Int} (k0:0≤k) (k1:k<x.Kinds.length) (p:Nat→Bool):
  cycS (flen x k:Int) (ownD x k p)=match Qd3 (Qbs ((ownD x k p).map (edN (flen x k+1)))) (ownD x k p).length (flen x k) 2 with | some c=>(c,0) | none=>([],6):=by
 have:=Qsm (QgW hc k0 k1 p)
 rw[show ((flen x k+1:Nat):Int) - 1=(flen x k:Int) by omega] at this
 exact this
theorem QiM {x:Qa} (hc:QP x=[]) {k:Int} (k0:0≤k) (k1:k<x.Kinds.length) (p:Nat→Bool):(cycN x k p≠[]↔NegK x k fun j=>p j=true)∧(cycN x k p=[]↔(cycS (flen x k:Int) (ownD x k p)).2≠0):=by
 have hv:=QgW hc k0 k1 p
 have hcs:=QlB hc k0 k1 p
 rw[←Qy2 hc k0 k1 p]
 unfold cycN
 rw[hcs]
 cases h:Qd3 (Qbs ((ownD x k p).map (edN (flen x k+1)))) (ownD x k p).length (flen x k) 2 with
 | none=>
  have:=Qzy hv h
  simp[this]
 | some c=>
  obtain⟨js,hp,_,h2,_,hn,_⟩:=Qzx hv h
  rw[hp]
  dsimp only
  have:js≠[]:=fun e=>by rw[e] at h2;simp at h2
  simp[this,hn]
/-- What the smallest contradiction is. -/
theorem QlC {x:Qa} (hc:QP x=[]) {k:Int} (k0:0≤k) (k1:k<x.Kinds.length) (p:Nat→Bool) (hne:cycN x k p≠[]):
  (∀c∈cycN x k p,c<(Qap x).length∧dK x c=k∧p c=true)∧(cycN x k p).Nodup∧(NegK x k fun j=>j∈cycN x k p)∧∀c∈cycN x k p,¬NegK x k fun j=>j∈cycN x k p∧j≠c:=by
 have hv:=QgW hc k0 k1 p
 have hcs:=QlB hc k0 k1 p
 cases h:Qd3 (Qbs ((ownD x k p).map (edN (flen x k+1)))) (ownD x k p).length (flen x k) 2 with
 | none=>exact absurd (by unfold cycN;rw[hcs,h];rfl) hne
 | some c=>
  obtain⟨js,hp,hj,h2,h3,hn,hpick⟩:=Qzx hv h
  have hC:cycN x k p=js.map fun j=>(ownI x k p).getD j 0:=by
   unfold cycN;rw[hcs,h];dsimp only;rw[hp,map_map];rfl
  have hlen:(ownD x k p).length=(ownI x k p).length:=by unfold ownD;simp
  have hin:∀j∈js,(ownI x k p).getD j 0∈ownI x k p:=fun j hm=>by
   have:=hj j hm
   rw[getD_eq_getElem?_getD,getElem?_eq_getElem (by omega)];exact getElem_mem _
  have hmem:∀c∈cycN x k p,c<(Qap x).length∧dK x c=k∧p c=true:=fun c hcm=>by
   rw[hC] at hcm
   obtain⟨j,hm,rfl⟩:=mem_map.1 hcm
   exact Qjt.1 (hin j hm)
  have hCl:(cycN x k p).length=js.length:=by rw[hC];simp
  have hCg:∀q (hq:q<js.length),(ownD x k p).getD (js.getD q 0) ⟨0,0,0⟩=dD x ((cycN x k p)[q]'(by rw[hCl];exact hq)):=fun q hq=>by
   have e1:js.getD q 0=js[q]:=by rw[getD_eq_getElem?_getD,getElem?_eq_getElem hq];rfl
   have hjq:=hj _ (getElem_mem hq)
   have e2:(cycN x k p)[q]'(by rw[hCl];exact hq)=(ownI x k p).getD js[q] 0:=by simp only[hC,getElem_map]
   rw[e1,e2]
   unfold ownD
   rw[getD_eq_getElem?_getD,getElem?_map,getD_eq_getElem?_getD,getElem?_eq_getElem (by omega)]
   rfl
  have key:∀s:Int,-1≤s→s<js.length→((NegK x k fun j=>∃q,∃hq:q<js.length,(q:Int)≠s∧j=(cycN x k p)[q]'(by rw[hCl];exact hq))↔s<0):=fun s s0 s1=>by
   obtain⟨hvp,hneg⟩:=hpick s s0 s1
   rw[←hneg]
   constructor
   ·rintro ⟨i,es,w1,w2,w3⟩
    refine⟨i,es,w1,w2,fun e he=>?_⟩
    obtain⟨j,_,_,⟨q,hq,hqs,rfl⟩,rfl⟩:=w3 e he
    rw[←hCg q hq]
    exact mem_map_of_mem (Qjs.2 ⟨q,hq,hqs,rfl⟩)
   ·rintro ⟨i,es,w1,w2,w3⟩
    refine⟨i,es,w1,w2,fun e he=>?_⟩
    obtain⟨d,hd,rfl⟩:=mem_map.1 (w3 e he)
    obtain⟨q,hq,hqs,rfl⟩:=Qjs.1 hd
    have hm:=hmem _ (getElem_mem (show q<(cycN x k p).length by rw[hCl];exact hq))
    exact⟨_,hm.1,hm.2.1,⟨q,hq,hqs,rfl⟩,by rw[hCg q hq]⟩
  refine⟨hmem,?_,?_,fun c hcm hneg=>?_⟩
  ·show Pairwise _ _
   rw[pairwise_iff_getElem]
   intro a b ha hb hab he
   have h1:=(key (-1) (by omega) (by omega)).2 (by omega)
   have h2:=(key (a:Int) (by omega) (by rw[hCl] at ha;omega)).1 (h1.mono fun j _ ⟨q,hq,_,hj⟩=>by
    by_cases e:q=a
    ·subst e;exact⟨b,by rw[←hCl];exact hb,by omega,hj.trans he⟩
    ·exact⟨q,hq,by omega,hj⟩)
   omega
  ·exact ((key (-1) (by omega) (by omega)).2 (by omega)).mono fun j _ ⟨q,hq,_,hj⟩=>by rw[hj];exact getElem_mem _
  ·obtain⟨a,ha,rfl⟩:=getElem_of_mem hcm
   have h2:=(key (a:Int) (by omega) (by rw[hCl] at ha;omega)).1 (hneg.mono fun j _ ⟨hjm,hja⟩=>by
    obtain⟨q,hq,rfl⟩:=getElem_of_mem hjm
    have hqa:q≠a:=fun e=>hja (by subst e;rfl)
    exact⟨q,by rw[←hCl];exact hq,by omega,rfl⟩)
   omega
end Go.Proofs.YtlajingmjmnfgaaGreatDoor
namespace Go.Proofs.YtlajingmjmnfgaaGreatDoor
open Go.Sim
inductive Tag where
 | k (i t:Nat)
 | f (i j t:Nat)
 | r (i:Nat)
def Tag.i:Tag→Nat | .k i _=>i | .f i _ _=>i | .r i=>i
def Tag.j:Tag→Nat | .f _ j _=>j | _=>0
def Tag.t:Tag→Nat | .k _ t=>t | .f _ _ t=>t | .r _=>4
def Qh7 (t:Nat):Str:=if t=0 then Qur else if t=1 then mostT else if t=2 then lowT else Qol
def kAt (x:Qa) (i:Nat):Qe:=x.Kinds.getD i ⟨[],0,0,[]⟩
def fAt (x:Qa) (i j:Nat):Qb:=(kAt x i).Fields.getD j QdJ
def rAt (x:Qa) (i:Nat):Qj:=x.Rules.getD i ⟨[],[],[],[],0⟩
def strT (x:Qa):Tag→Str
 | .k i t=>(kAt x i).Name++Qh7 t
 | .f i j t=>dotN (kAt x i) (fAt x i j)++Qh7 t
 | .r i=>Qsc++(rAt x i).Name
def tgR (x:Qa) (i j:Nat):List Tag:=if ((fAt x i j).Kind==1)=true then [.f i j 0,.f i j 1] else []
def tgN (x:Qa) (i j:Nat):List Tag:=if (((fAt x i j).Kind !=2)&&((fAt x i j).Kind !=4))=true then [] else [.f i j 2,.f i j 3]
def QkN (x:Qa):List Tag:=(range x.Kinds.length).flatMap fun i=>[.k i 0,.k i 1]++(range (kAt x i).Fields.length).flatMap (tgR x i)
def QkO (x:Qa):List Tag:=(range x.Kinds.length).flatMap fun i=>(range (kAt x i).Fields.length).flatMap (tgN x i)
def Qju (x:Qa):List Tag:=(range x.Rules.length).map Tag.r
theorem QgD {x:Qa} {i:Nat} (h:i<x.Kinds.length):kAt x i=x.Kinds[i]∧x.Kinds[i]?=some (kAt x i):=by
 have:kAt x i=x.Kinds[i]:=by unfold kAt;rw[getD_eq_getElem?_getD,getElem?_eq_getElem h];rfl
 exact⟨this,by rw[this,getElem?_eq_getElem h]⟩
theorem QiN {x:Qa} {i j:Nat} (h:j<(kAt x i).Fields.length):fAt x i j=(kAt x i).Fields[j]∧(kAt x i).Fields[j]?=some (fAt x i j):=by
 have:fAt x i j=(kAt x i).Fields[j]:=by unfold fAt;rw[getD_eq_getElem?_getD,getElem?_eq_getElem h];rfl
 exact⟨this,by rw[this,getElem?_eq_getElem h]⟩
theorem QkP {x:Qa} {i:Nat} (h:i<x.Rules.length):rAt x i=x.Rules[i]∧x.Rules[i]?=some (rAt x i):=by
 have:rAt x i=x.Rules[i]:=by unfold rAt;rw[getD_eq_getElem?_getD,getElem?_eq_getElem h];rfl
 exact⟨this,by rw[this,getElem?_eq_getElem h]⟩
theorem Qfm {α:Type} {n:Nat} {F G:Nat→List α} (h:∀i,i<n→F i=G i):(range n).flatMap F=(range n).flatMap G:=by
 induction n with
 | zero=>rfl
 | succ n ih=>rw[range_succ,flatMap_append,flatMap_append,ih fun i hi=>h i (by omega),flatMap_singleton,flatMap_singleton,h n (by omega)]
theorem Qsn {x:Qa} (hc:QP x=[]):QcT x=(QkN x++(QkO x++Qju x)).map (strT x):=by
 unfold QcT
 rw[map_append,map_append]
 unfold Qap
 rw[map_append]
 congr 1
 ·unfold namL QkN
  rw[map_flatMap]
  refine Qfm fun i hi=>?_
  obtain⟨_,e⟩:=QgD hi
  unfold kndN
  rw[e]
  dsimp only
  rw[map_append,map_flatMap]
  congr 1
  refine Qfm fun j hj=>?_
  unfold fldN tgR
  rw[(QiN hj).2]
  dsimp only
  split<;>rfl
 ·congr 1
  ·unfold QkO
   rw[map_flatMap,map_flatMap]
   refine Qfm fun i hi=>?_
   obtain⟨_,e⟩:=QgD hi
   unfold kndT
   rw[e]
   dsimp only
   rw[map_flatMap,map_flatMap]
   refine Qfm fun j hj=>?_
   unfold fldT tgN
   rw[(QiN hj).2]
   dsimp only
   split<;>rfl
  ·unfold Qju
   rw[map_flatMap,map_map]
   have:(range x.Rules.length).map (strT x ∘ Tag.r)=(range x.Rules.length).flatMap fun i=>[strT x (Tag.r i)]:=by
    rw[map_eq_flatMap];rfl
   rw[this]
   refine Qfm fun i hi=>?_
   obtain⟨e1,e⟩:=QkP hi
   obtain⟨q,_,hq,_⟩:=QgT hc e
   unfold rulT
   rw[e]
   dsimp only
   rw[hq]
   rfl
theorem Qfy {τ:Type} (key:τ→Nat) (F:Nat→List τ):∀n,(∀i,i<n→(F i).Nodup∧∀a∈F i,key a=i)→((range n).flatMap F).Nodup
 | 0,_=>by simp
 | n+1,h=>by
  rw[range_succ,flatMap_append,flatMap_singleton]
  refine nodup_append.2 ⟨Qfy key F n fun i hi=>h i (by omega),(h n (by omega)).1,fun a ha b hb e=>?_⟩
  obtain⟨i,hi,ha⟩:=mem_flatMap.1 ha
  have hi:=mem_range.1 hi
  have h1:=(h i (by omega)).2 a ha
  have h2:=(h n (by omega)).2 b hb
  rw[e,h2] at h1
  omega
theorem Qm7 {x:Qa} {i j:Nat} {a:Tag} (h:a∈tgR x i j):a=.f i j 0∨a=.f i j 1:=by
 unfold tgR at h
 split at h
 ·simpa using h
 ·cases h
theorem Qm8 {x:Qa} {i j:Nat} {a:Tag} (h:a∈tgN x i j):a=.f i j 2∨a=.f i j 3:=by
 unfold tgN at h
 split at h
 ·cases h
 ·simpa using h
theorem Qso (x:Qa):(QkN x++(QkO x++Qju x)).Nodup:=by
 have hR:∀i,((range (kAt x i).Fields.length).flatMap (tgR x i)).Nodup:=fun i=>Qfy Tag.j _ _ fun j _=>⟨by unfold tgR;split<;>simp,fun a ha=>by rcases Qm7 ha with rfl | rfl<;>rfl⟩
 have hN:∀i,((range (kAt x i).Fields.length).flatMap (tgN x i)).Nodup:=fun i=>Qfy Tag.j _ _ fun j _=>⟨by unfold tgN;split<;>simp,fun a ha=>by rcases Qm8 ha with rfl | rfl<;>rfl⟩
 have mR:∀i,∀a∈(range (kAt x i).Fields.length).flatMap (tgR x i),∃j,a=.f i j 0∨a=.f i j 1:=fun i a ha=>by
  obtain⟨j,_,ha⟩:=mem_flatMap.1 ha
  exact⟨j,Qm7 ha⟩
 have mN:∀i,∀a∈(range (kAt x i).Fields.length).flatMap (tgN x i),∃j,a=.f i j 2∨a=.f i j 3:=fun i a ha=>by
  obtain⟨j,_,ha⟩:=mem_flatMap.1 ha
  exact⟨j,Qm8 ha⟩
 have tB:∀a∈QkO x,a.t=2∨a.t=3:=fun a ha=>by
  obtain⟨i,_,ha⟩:=mem_flatMap.1 ha
  obtain⟨j,rfl | rfl⟩:=mN i a ha
  ·exact .inl rfl
  ·exact .inr rfl
 have tC:∀a∈Qju x,a.t=4:=fun a ha=>by
  obtain⟨i,_,rfl⟩:=mem_map.1 ha
  rfl
 have tA:∀a∈QkN x,a.t=0∨a.t=1:=fun a ha=>by
  obtain⟨i,_,ha⟩:=mem_flatMap.1 ha
  rcases mem_append.1 ha with ha | ha
  ·simp only[mem_cons,not_mem_nil,or_false] at ha
   rcases ha with rfl | rfl
   ·exact .inl rfl
   ·exact .inr rfl
  ·obtain⟨j,rfl | rfl⟩:=mR i a ha
   ·exact .inl rfl
   ·exact .inr rfl
 refine nodup_append.2 ⟨Qfy Tag.i _ _ fun i _=>⟨nodup_append.2 ⟨by simp,hR i,fun a ha b hb e=>?_⟩,fun a ha=>?_⟩,nodup_append.2 ⟨Qfy Tag.i _ _ fun i _=>⟨hN i,fun a ha=>?_⟩,?_,fun a ha b hb e=>?_⟩,fun a ha b hb e=>?_⟩
 ·simp only[mem_cons,not_mem_nil,or_false] at ha
  obtain⟨j,hb⟩:=mR i b hb
  rcases ha with rfl | rfl<;>rcases hb with rfl | rfl<;>cases e
 ·rcases mem_append.1 ha with ha | ha
  ·simp only[mem_cons,not_mem_nil,or_false] at ha
   rcases ha with rfl | rfl<;>rfl
  ·obtain⟨j,rfl | rfl⟩:=mR i a ha<;>rfl
 ·obtain⟨j,rfl | rfl⟩:=mN i a ha<;>rfl
 ·show Pairwise _ _
  unfold Qju
  rw[pairwise_map]
  exact pairwise_lt_range.imp fun h e=>by cases e;omega
 ·have h1:=tB a ha
  have h2:=tC b hb
  rw[e] at h1;omega
 ·have h1:=tA a ha
  rcases mem_append.1 hb with hb | hb
  ·have h2:=tB b hb
   rw[e] at h1;omega
  ·have h2:=tC b hb
   rw[e] at h1;omega
/-! Names are read again -/
theorem Qcx {s:Str} (h:QX s=true):(32:UInt8)∉s∧(46:UInt8)∉s∧(58:UInt8)∉s:=by
 simp only[QX,Bool.and_eq_true,all_eq_true] at h
 have key:∀c:UInt8,c∈s→97≤(c.toNat:Int)∧(c.toNat:Int)≤122∨48≤(c.toNat:Int)∧(c.toNat:Int)≤57:=fun c hc=>by
  have:=h.2.2 (c.toNat:Int) (by unfold QL;exact mem_map_of_mem hc)
  simp only[Qed,QhI,Bool.or_eq_true] at this
  rcases this with h | h
  ·exact .inl (QbD h)
  ·exact .inr (QbD h)
 refine⟨fun h=>?_,fun h=>?_,fun h=>?_⟩
 ·have:=key _ h;simp at this
 ·have:=key _ h;simp at this
 ·have:=key _ h;simp at this
theorem sep {c:UInt8}:∀{a a' b b':Str},c∉a→c∉a'→a++c::b=a'++c::b'→a=a'∧b=b'
 | [],[],_,_,_,_,h=>⟨rfl,by simpa using h⟩
 | [],d::a',_,_,_,h2,h=>by
  simp only[nil_append,cons_append,List.cons.injEq] at h
  exact absurd (by rw[h.1];exact mem_cons_self ..) h2
 | d::a,[],_,_,h1,_,h=>by
  simp only[nil_append,cons_append,List.cons.injEq] at h
  exact absurd (by rw[←h.1];exact mem_cons_self ..) h1
 | d::a,d'::a',b,b',h1,h2,h=>by
  simp only[cons_append,List.cons.injEq] at h
  obtain⟨e1,e2⟩:=sep (fun hm=>h1 (mem_cons_of_mem _ hm)) (fun hm=>h2 (mem_cons_of_mem _ hm)) h.2
  exact⟨by rw[h.1,e1],e2⟩
def QkQ (t:Nat):Str:=(Qh7 t).drop 1
theorem Qmt (t:Nat):Qh7 t=32::QkQ t:=by
 unfold QkQ Qh7
 split
 ·rfl
 ·split
  ·rfl
  ·split<;>rfl
theorem QpK {t u:Nat} (ht:t<4) (hu:u<4) (h:QkQ t=QkQ u):t=u:=by
 have key:∀t u:_root_.Fin 4,QkQ t.val=QkQ u.val→t=u:=by decide
 have:=key ⟨t,ht⟩ ⟨u,hu⟩ h
 exact congrArg _root_.Fin.val this
theorem QlD (t:Nat):(46:UInt8)∉Qh7 t∧(58:UInt8)∉Qh7 t:=by
 unfold Qh7
 split
 ·decide
 ·split
  ·decide
  ·split<;>decide
/-- A tag that stands for a rule. -/
def Real (x:Qa):Tag→Prop
 | .k i t=>i<x.Kinds.length∧t<4
 | .f i j t=>i<x.Kinds.length∧j<(kAt x i).Fields.length∧t<4
 | .r i=>i<x.Rules.length
theorem Qmu {x:Qa} (hc:QP x=[]) {i j:Nat} (hi:i<x.Kinds.length) (hj:j<x.Kinds.length) (h:(kAt x i).Name=(kAt x j).Name):i=j:=by
 have key:∀i j,j<i→i<x.Kinds.length→(kAt x i).Name=(kAt x j).Name→False:=by
  intro i j hji hi h
  have hE:Qh2 x (i:Int) (kAt x i)=0:=by
   have hc':=hc
   unfold QP at hc'
   split at hc'
   ·simp only[append_eq_nil_iff] at hc'
    have h1:=flatMap_eq_nil_iff.1 hc'.1.2 i (mem_range.2 hi)
    unfold Qgg at h1
    rw[(QgD hi).2] at h1
    exact Qjm (append_eq_nil_iff.1 h1).1
   ·cases hc'
  unfold Qh2 at hE
  have h1:=(Qb0 hE (by decide)).1
  have h1:¬kindIx x (kAt x i).Name<(i:Int):=by simpa using h1
  apply h1
  unfold kindIx Qau
  cases hf:x.Kinds.findIdx? fun k=>k.Name==(kAt x i).Name with
  | none=>dsimp only;omega
  | some n=>
   dsimp only
   obtain⟨hn,_,hb⟩:=findIdx?_eq_some_iff_getElem.1 hf
   rcases Nat.lt_or_ge j n with hjn | hjn
   ·have:=hb j hjn
    rw[h,(QgD (by omega:j<x.Kinds.length)).1] at this
    simp at this
   ·omega
 rcases Nat.lt_trichotomy i j with h' | h' | h'
 ·exact (key j i h' hj h.symm).elim
 ·exact h'
 ·exact (key i j h' hi h).elim
theorem Qqt {x:Qa} (hc:QP x=[]) {i a b:Nat} (hi:i<x.Kinds.length) (ha:a<(kAt x i).Fields.length) (hb:b<(kAt x i).Fields.length) (h:(fAt x i a).Name=(fAt x i b).Name):a=b:=by
 have key:∀a b,b<a→a<(kAt x i).Fields.length→(fAt x i a).Name=(fAt x i b).Name→False:=by
  intro a b hba ha h
  have hE:QhM x (kAt x i) (i:Int) (a:Int) (fAt x i a)=0:=by
   have hc':=hc
   unfold QP at hc'
   split at hc'
   ·simp only[append_eq_nil_iff] at hc'
    have h1:=flatMap_eq_nil_iff.1 hc'.1.2 i (mem_range.2 hi)
    unfold Qgg at h1
    rw[(QgD hi).2] at h1
    have h2:=flatMap_eq_nil_iff.1 (append_eq_nil_iff.1 h1).2 a (mem_range.2 ha)
    unfold QfK at h2
    rw[(QiN ha).2] at h2
    exact Qjm h2
   ·cases hc'
  unfold QhM at hE
  split at hE
  ·cases hE
  ·next h1=>
   apply h1
   unfold fieldIx Qau
   cases hf:(kAt x i).Fields.findIdx? fun k=>k.Name==(fAt x i a).Name with
   | none=>dsimp only;omega
   | some n=>
    dsimp only
    obtain⟨hn,_,hb⟩:=findIdx?_eq_some_iff_getElem.1 hf
    rcases Nat.lt_or_ge b n with hjn | hjn
    ·have:=hb b hjn
     rw[h,(QiN (by omega:b<(kAt x i).Fields.length)).1] at this
     simp at this
    ·omega
 rcases Nat.lt_trichotomy a b with h' | h' | h'
 ·exact (key b a h' hb h.symm).elim
 ·exact h'
 ·exact (key a b h' ha h).elim
theorem Qsp {x:Qa} (hc:QP x=[]) {i j:Nat} (hi:i<x.Rules.length) (hj:j<x.Rules.length) (h:(rAt x i).Name=(rAt x j).Name):i=j:=by
 have key:∀i j,j<i→i<x.Rules.length→(rAt x i).Name=(rAt x j).Name→False:=by
  intro i j hji hi h
  have hz:=Qkh hc (QkP hi).2
  unfold Qhc at hz
  have h1:=(Qb0 hz (by decide)).1
  have:(x.Rules.take i).any (fun s=>s.Name==(rAt x i).Name)=true:=by
   refine any_eq_true.2 ⟨rAt x j,?_,by rw[h];simp⟩
   rw[(QkP (by omega:j<x.Rules.length)).1]
   exact mem_take_iff_getElem.2 ⟨j,by omega,rfl⟩
  rw[this] at h1;cases h1
 rcases Nat.lt_trichotomy i j with h' | h' | h'
 ·exact (key j i h' hj h.symm).elim
 ·exact h'
 ·exact (key i j h' hi h).elim
theorem Qy3 {x:Qa} (hc:QP x=[]) {a b:Tag} (ha:Real x a) (hb:Real x b) (h:strT x a=strT x b):a=b:=by
 have hv:=Qal hc
 have nk:∀i,i<x.Kinds.length→QX (kAt x i).Name=true:=fun i hi=>by
  have:=hv.kind _ (getElem_mem hi)
  rw[←(QgD hi).1] at this
  simp only[kindS,Bool.and_eq_true] at this
  exact this.1.1.1
 have nf:∀i j,i<x.Kinds.length→j<(kAt x i).Fields.length→QX (fAt x i j).Name=true:=fun i j hi hj=>by
  have hK:=hv.kind _ (getElem_mem hi)
  rw[←(QgD hi).1] at hK
  have:=(Qcl hK).2.2 _ (getElem_mem hj)
  rw[←(QiN hj).1] at this
  simp only[fieldS,Bool.and_eq_true] at this
  exact this.1.1
 have nr:∀i,i<x.Rules.length→QX (rAt x i).Name=true:=fun i hi=>by
  have:=hv.rule _ (getElem_mem hi)
  rw[←(QkP hi).1] at this
  simp only[Qck,Bool.and_eq_true] at this
  exact this.1.1.1.1.1
 have colon:∀a,Real x a→(∀i,a≠.r i)→(58:UInt8)∉strT x a:=by
  intro a ha hr
  cases a with
  | k i t=>
   unfold strT
   rw[mem_append,not_or]
   exact⟨(Qcx (nk i ha.1)).2.2,(QlD t).2⟩
  | f i j t=>
   unfold strT dotN
   rw[mem_append,mem_append,mem_append,not_or,not_or,not_or]
   exact⟨⟨⟨(Qcx (nk i ha.1)).2.2,by decide⟩,(Qcx (nf i j ha.1 ha.2.1)).2.2⟩,(QlD t).2⟩
  | r i=>exact absurd rfl (hr i)
 have colonR:∀i,(58:UInt8)∈strT x (.r i):=fun i=>by unfold strT;exact mem_append_left _ (by decide)
 have dotK:∀i t,i<x.Kinds.length→(46:UInt8)∉strT x (.k i t):=fun i t hi=>by
  unfold strT
  rw[mem_append,not_or]
  exact⟨(Qcx (nk i hi)).2.1,(QlD t).1⟩
 have dotF:∀i j t,(46:UInt8)∈strT x (.f i j t):=fun i j t=>by unfold strT dotN;simp
 cases a with
 | k i t=>
  cases b with
  | k i' t'=>
   simp only[strT] at h
   rw[Qmt,Qmt] at h
   obtain⟨e1,e2⟩:=sep (Qcx (nk i ha.1)).1 (Qcx (nk i' hb.1)).1 h
   rw[Qmu hc ha.1 hb.1 e1,QpK ha.2 hb.2 e2]
  | f i' j' t'=>exact absurd (by rw[h];exact dotF i' j' t') (dotK i t ha.1)
  | r i'=>exact absurd (by rw[h];exact colonR i') (colon _ ha (fun _ e=>by cases e))
 | f i j t=>
  cases b with
  | k i' t'=>exact absurd (by rw[←h];exact dotF i j t) (dotK i' t' hb.1)
  | f i' j' t'=>
   simp only[strT,dotN,append_assoc,singleton_append] at h
   obtain⟨e1,e2⟩:=sep (Qcx (nk i ha.1)).2.1 (Qcx (nk i' hb.1)).2.1 h
   rw[Qmt,Qmt] at e2
   obtain⟨e3,e4⟩:=sep (Qcx (nf i j ha.1 ha.2.1)).1 (Qcx (nf i' j' hb.1 hb.2.1)).1 e2
   have:=Qmu hc ha.1 hb.1 e1
   subst this
   rw[Qqt hc ha.1 ha.2.1 hb.2.1 e3,QpK ha.2.2 hb.2.2 e4]
  | r i'=>exact absurd (by rw[h];exact colonR i') (colon _ ha (fun _ e=>by cases e))
 | r i=>
  cases b with
  | k i' t'=>exact absurd (by rw[←h];exact colonR i) (colon _ hb (fun _ e=>by cases e))
  | f i' j' t'=>exact absurd (by rw[←h];exact colonR i) (colon _ hb (fun _ e=>by cases e))
  | r i'=>
   simp only[strT] at h
   rw[Qsp hc ha hb (append_cancel_left h)]
theorem QuL (x:Qa):∀a∈QkN x++(QkO x++Qju x),Real x a:=by
 intro a ha
 rcases mem_append.1 ha with ha | ha
 ·obtain⟨i,hi,ha⟩:=mem_flatMap.1 ha
  have hi:=mem_range.1 hi
  rcases mem_append.1 ha with ha | ha
  ·simp only[mem_cons,not_mem_nil,or_false] at ha
   rcases ha with rfl | rfl
   ·exact⟨hi,by omega⟩
   ·exact⟨hi,by omega⟩
  ·obtain⟨j,hj,ha⟩:=mem_flatMap.1 ha
   have hj:=mem_range.1 hj
   rcases Qm7 ha with rfl | rfl
   ·exact⟨hi,hj,by omega⟩
   ·exact⟨hi,hj,by omega⟩
 ·rcases mem_append.1 ha with ha | ha
  ·obtain⟨i,hi,ha⟩:=mem_flatMap.1 ha
   have hi:=mem_range.1 hi
   obtain⟨j,hj,ha⟩:=mem_flatMap.1 ha
   have hj:=mem_range.1 hj
   rcases Qm8 ha with rfl | rfl
   ·exact⟨hi,hj,by omega⟩
   ·exact⟨hi,hj,by omega⟩
  ·obtain⟨i,hi,rfl⟩:=mem_map.1 ha
   exact mem_range.1 hi
theorem Qqu {x:Qa} (hc:QP x=[]):(QcT x).Nodup:=by
 rw[Qsn hc]
 show Pairwise _ _
 rw[pairwise_map]
 have hn:Pairwise (·≠·) (QkN x++(QkO x++Qju x)):=Qso x
 have hr:=QuL x
 refine (Pairwise.and_mem.1 hn).imp fun⟨ha,hb,hne⟩ e=>hne (Qy3 hc (hr _ ha) (hr _ hb) e)
end Go.Proofs.YtlajingmjmnfgaaGreatDoor
namespace Go.Proofs.YtlajingmjmnfgaaGreatDoor
open Go.Sim
/-! Loops that may stop -/
def QgI {α σ:Type} (step:α→σ→Option σ):List α→σ→Option σ
 | [],s=>some s
 | a::l,s=>(step a s).bind (QgI step l)
theorem Qjv {α σ:Type} (step:α→σ→Option σ) (a:α) (l:List α) (s:σ):QgI step (a::l) s=(step a s).bind (QgI step l):=rfl
theorem QuM {α σ ρ:Type} (l:List α) (step:α→σ→Option σ) (I:σ→Prop) (bad:ρ) (hI:∀a∈l,∀s s',I s→step a s=some s'→I s') {body:Int×σ→Option ((Int×σ)⊕(σ⊕ρ))}
  (hb:∀k (h:k<l.length) s,I s→body ((k:Int),s)=some (match step l[k] s with | some s'=>.inl (((k+1:Nat):Int),s') | none=>.inr (.inr bad))) (he:∀s,body ((l.length:Int),s)=some (.inr (.inl s))) {s:σ} (hs:I s):
  Qo body ((0:Int),s)=some (match QgI step l s with | some s'=>.inl s' | none=>.inr bad):=by
 have key:∀m k s,k+m=l.length→I s→Qo body ((k:Int),s)=some (match QgI step (l.drop k) s with | some s'=>.inl s' | none=>.inr bad):=by
  intro m
  induction m with
  | zero=>
   intro k s hk hs
   have:k=l.length:=by omega
   subst this
   rw[Qan,he,drop_length];rfl
  | succ m ih=>
   intro k s hk hs
   have hkl:k<l.length:=by omega
   rw[Qan,hb k hkl s hs,drop_eq_getElem_cons hkl]
   unfold QgI
   cases h:step l[k] s with
   | none=>rfl
   | some s'=>
    simp only[Option.bind_some]
    exact ih (k+1) s' (by omega) (hI _ (getElem_mem hkl) s s' hs h)
 have:=key l.length 0 s (by omega) hs
 simpa using this
theorem QwA {α σ:Type} (l:List α) (step:α→σ→σ) (I:σ→Prop) (hI:∀a∈l,∀s,I s→I (step a s)) {body:Int×σ→Option ((Int×σ)⊕σ)}
  (hb:∀k (h:k<l.length) s,I s→body ((k:Int),s)=some (.inl (((k+1:Nat):Int),step l[k] s))) (he:∀s,body ((l.length:Int),s)=some (.inr s)) {s:σ} (hs:I s):
  Qo body ((0:Int),s)=some (l.foldl (fun s a=>step a s) s):=by
 have key:∀m k s,k+m=l.length→I s→Qo body ((k:Int),s)=some ((l.drop k).foldl (fun s a=>step a s) s):=by
  intro m
  induction m with
  | zero=>
   intro k s hk hs
   have:k=l.length:=by omega
   subst this
   rw[Qan,he,drop_length];rfl
  | succ m ih=>
   intro k s hk hs
   have hkl:k<l.length:=by omega
   rw[Qan,hb k hkl s hs,drop_eq_getElem_cons hkl,foldl_cons]
   exact ih (k+1) _ (by omega) (hI _ (getElem_mem hkl) s hs)
 have:=key l.length 0 s (by omega) hs
 simpa using this
/-- Some elements of a list. -/
def sel {α:Type} (l:List α) (p:Nat→Bool) (d:α):List α:=((range l.length).filter p).map fun i=>l.getD i d
theorem Qrl {α:Type} {l:List α} {p:Nat→Bool} {d a:α}:a∈sel l p d↔∃i,l[i]?=some a∧p i=true:=by
 unfold sel
 simp only[mem_map,mem_filter,mem_range]
 constructor
 ·rintro ⟨i,⟨h1,h2⟩,rfl⟩
  exact⟨i,by rw[getD_eq_getElem?_getD,getElem?_eq_getElem h1];rfl,h2⟩
 ·rintro ⟨i,h1,h2⟩
  obtain⟨hi,e⟩:=List.getElem?_eq_some_iff.1 h1
  exact⟨i,⟨hi,h2⟩,by rw[getD_eq_getElem?_getD,h1];rfl⟩
theorem Qkl {α σ:Type} (step:α→σ→Option σ) (f:Nat→α) (p:Nat→Bool):∀(l:List Nat) (s:σ),QgI (fun i s=>if p i=true then step (f i) s else some s) l s=QgI step ((l.filter p).map f) s
 | [],s=>rfl
 | i::l,s=>by
  rw[filter_cons,Qjv]
  cases hp:p i with
  | true=>
   rw[if_pos rfl,if_pos rfl,map_cons,Qjv]
   cases step (f i) s with
   | none=>rfl
   | some s'=>exact Qkl step f p l s'
  | false=>
   rw[if_neg (by simp),if_neg (by simp)]
   exact Qkl step f p l s
/-! The program -/
def upc (s:List Int×Bool) (k m:Int):List Int×Bool:=if nth s.1 k<m then (s.1.set k.toNat m,true) else s
theorem QuN (v:List Int) (c:Bool) {k m:Int} (k0:0≤k) (k1:k<v.length):upc (v,c) k m=(up1 v k m,c||decide (up1 v k m≠v)):=by
 have h:=Qlt (m:=m) k0 k1
 by_cases hlt:nth v k<m
 ·have h1:up1 v k m≠v:=fun e=>by have:=h.1 e;omega
  have h2:up1 v k m=v.set k.toNat m:=by unfold up1;rw[if_pos hlt]
  rw[decide_eq_true h1,Bool.or_true,h2]
  unfold upc
  rw[if_pos hlt]
 ·have h1:up1 v k m=v:=h.2 (by omega)
  rw[h1]
  unfold upc
  rw[if_neg hlt]
  simp
def QkR (y:Qg) (s:List Int×Bool):Option (List Int×Bool):=if rsB y s.1=true then some (upc s (rsK y) (rsN y s.1)) else none
theorem QpL {n:Nat}:∀(l:List Qg) (v:List Int) (c:Bool),(∀y∈l,VL y n)→v.length=n→QgI QkR l (v,c)=(rndL l v).map fun w=>(w,c||decide (w≠v))
 | [],v,c,_,_=>by simp[QgI,rndL]
 | y::l,v,c,hl,hv=>by
  have hk:=QiI (hl y (mem_cons_self ..))
  have hk2:rsK y<v.length:=by rw[hv];exact hk.2
  have e0:QkR y (v,c)=if rsB y v=true then some (upc (v,c) (rsK y) (rsN y v)) else none:=rfl
  rw[Qjv,e0]
  unfold rndL
  cases hb:rsB y v with
  | false=>rfl
  | true=>
   rw[if_pos rfl,if_pos rfl,Option.bind_some,QuN v c hk.1 hk2,QpL l _ _ (fun z hz=>hl z (mem_cons_of_mem _ hz)) ((Qch ..).trans hv)]
   cases hr:rndL l (up1 v (rsK y) (rsN y v)) with
   | none=>rfl
   | some w=>
    have h1:=QgU (m:=rsN y v) hk.1 hk2
    have h2:=QiJ l _ w (fun z hz=>hl z (mem_cons_of_mem _ hz)) ((Qch ..).trans hv) hr
    simp only[Option.map_some]
    congr 2
    rw[Bool.or_assoc]
    congr 1
    rw[Bool.eq_iff_iff]
    simp only[ne_eq,decide_not,Bool.or_eq_true,Bool.not_eq_true',decide_eq_false_iff_not]
    constructor
    ·rintro (h | h) e
     ·exact h (h2.anti (by rw[e];exact h1) |>.trans e)
     ·exact h (by rw[e];exact (h1.anti (by rw[e] at h2;exact h2)))
    ·intro h
     by_cases e:up1 v (rsK y) (rsN y v)=v
     ·exact .inr fun e2=>h (e2.trans e)
     ·exact .inl e
def Qmv (r:Int×Int) (s:List Int×Bool):List Int×Bool:=upc s r.2 (imin 1 (nth s.1 r.1))
theorem QpM {n:Nat}:∀(l:List (Int×Int)) (v:List Int) (c:Bool),(∀r∈l,0≤r.2∧r.2<n)→v.length=n→l.foldl (fun s r=>Qmv r s) (v,c)=(rndR l v,c||decide (rndR l v≠v))
 | [],v,c,_,_=>by simp[rndR]
 | r::l,v,c,hl,hv=>by
  have hk:=hl r (mem_cons_self ..)
  have hk2:r.2<v.length:=by rw[hv];exact hk.2
  rw[foldl_cons]
  unfold rndR
  have e0:Qmv r (v,c)=(up1 v r.2 (imin 1 (nth v r.1)),c||decide (up1 v r.2 (imin 1 (nth v r.1))≠v)):=QuN v c hk.1 hk2
  rw[e0,QpM l _ _ (fun z hz=>hl z (mem_cons_of_mem _ hz)) ((Qch ..).trans hv)]
  have h1:=QgU (m:=imin 1 (nth v r.1)) hk.1 hk2
  have h2:=QiK l (up1 v r.2 (imin 1 (nth v r.1))) (fun z hz=>hl z (mem_cons_of_mem _ hz)) ((Qch ..).trans hv)
  congr 1
  rw[Bool.or_assoc]
  congr 1
  rw[Bool.eq_iff_iff]
  simp only[ne_eq,decide_not,Bool.or_eq_true,Bool.not_eq_true',decide_eq_false_iff_not]
  constructor
  ·rintro (h | h) e
   ·exact h (h2.anti (by rw[e];exact h1) |>.trans e)
   ·exact h (by rw[e];exact (h1.anti (by rw[e] at h2;exact h2)))
  ·intro h
   by_cases e:up1 v r.2 (imin 1 (nth v r.1))=v
   ·exact .inr fun e2=>h (e2.trans e)
   ·exact .inl e
theorem QwB {n:Nat} {y:Qg} {v:List Int} (hy:VL y n) (hv:v.length=n):QfG y v=some (rsK y,rsN y v,rsB y v):=by
 have:=hy.a0;have:=hy.a1;have:=hy.b0;have:=hy.b1
 unfold QfG rsK rsN rsB rsO
 have ha:idx v y.A=some (nth v y.A):=QiF hy.a0 (by omega)
 have e:(if (decide (y.B≥(0:Int)))=true then (idx v y.B).bind fun t14=>some t14 else some (1:Int))=some (if y.B≥0 then nth v y.B else 1):=by
  by_cases hb:y.B≥0
  ·rw[if_pos (by simpa using hb),if_pos hb,QiF hb (by omega)];rfl
  ·rw[if_neg (by simpa using hb),if_neg hb]
 rw[e]
 simp only[Option.bind_some]
 by_cases hL:y.Least=true
 ·rw[if_pos hL,if_pos hL,if_pos hL,if_pos hL]
 ·rw[if_neg hL,if_neg hL,if_neg hL,if_neg hL]
  by_cases hF:rsF y=true
  ·rw[if_pos hF,if_pos hF,if_pos hF]
   unfold rsF at hF
   rw[if_pos hF,ha];rfl
  ·rw[if_neg hF,if_neg hF,if_neg hF]
   have hF':=hF
   unfold rsF at hF
   rw[if_neg hF,ha]
   simp only[rsF,Bool.or_eq_true,decide_eq_true_eq,beq_iff_eq,not_or] at hF'
   simp only[Option.bind_some]
   rw[Qok hF'.2];rfl
theorem QuO {v:List Int} {c:Bool} {k m:Int} (k0:0≤k) (k1:k<v.length):Qbk k m v c=some (upc (v,c) k m):=by
 unfold Qbk upc
 rw[QiF k0 k1]
 simp only[Option.bind_some]
 by_cases h:nth v k<m
 ·rw[if_pos (by simpa using h),if_pos h]
  unfold setAt
  rw[if_pos ⟨k0,k1⟩];rfl
 ·rw[if_neg (by simpa using h),if_neg h];rfl
theorem QuP {n:Nat} {E:Int→Bool} {w:List Int} {body:Int→Option (Int⊕(Unit⊕Bool))}
  (hb:∀k:Nat,k<n→body (k:Int)=some (if (decide (65536<nth w (k:Int))||(decide (0<nth w (k:Int))&&E (k:Int)))=true then .inr (.inr false) else .inl ((k+1:Nat):Int))) (he:body (n:Int)=some (.inr (.inl ()))):
  Qo body (0:Int)=some (if over E n w=true then .inr false else .inl ()):=by
 have h3:∀k,k<n→(fun k:Nat=>decide (65536<nth w (k:Int))||(decide (0<nth w (k:Int))&&E (k:Int))) k=false→body (k:Int)=some (.inl ((k+1:Nat):Int)):=fun k hk h=>by
  rw[hb k hk];dsimp only at h;rw[h];rfl
 have h4:∀k,k<n→(fun k:Nat=>decide (65536<nth w (k:Int))||(decide (0<nth w (k:Int))&&E (k:Int))) k=true→body (k:Int)=some (.inr (.inr false)):=fun k hk h=>by
  rw[hb k hk];dsimp only at h;rw[h];rfl
 rcases QhE (body:=body) n _ (.inl ()) (fun _=>.inr false) h3 h4 he with⟨k,hk,h1,_,h2⟩ | ⟨h1,h2⟩
 ·rw[h2,if_pos]
  unfold over
  exact any_eq_true.2 ⟨k,mem_range.2 hk,h1⟩
 ·rw[h2,if_neg]
  unfold over
  rw[any_eq_true]
  rintro ⟨k,hk,h⟩
  rw[h1 k (mem_range.1 hk)] at h;cases h
def refP (l:List QE):List (Int×Int):=l.map fun r=>(r.a0,r.a1)
/-- Limits, references and numbers of kinds that fit together. -/
structure StOk (n:Nat) (L:List Qg) (R:List QE):Prop where
 few:n≤6
 lim:∀y∈L,VL y n
 refs:∀r∈R,(0≤r.a0∧r.a0<n)∧(0≤r.a1∧r.a1<n)
 len:L.length≤1000
 rlen:R.length≤1000
theorem StOk.refP {n:Nat} {L:List Qg} {R:List QE} (h:StOk n L R):∀p∈refP R,(0≤p.1∧p.1<n)∧(0≤p.2∧p.2<n):=fun p hp=>by
 obtain⟨r,hr,rfl⟩:=mem_map.1 hp
 exact h.refs r hr
def zL:Qg:=⟨0,0,0,false⟩
theorem Qmw {n:Nat} {L:List Qg} (h:∀y∈L,VL y n) (p:Nat→Bool):∀y∈sel L p zL,VL y n:=fun y hy=>by
 obtain⟨i,hi,_⟩:=Qrl.1 hy
 exact h y (mem_of_getElem? hi)
theorem Qil {s:QaI} {n:Nat} (hn:s.x.Kinds.length=n) (hs:StOk n s.limits s.refs) {fl fe:Int→Option Bool} {p:Nat→Bool} {E:Int→Bool} (hl:∀i:Nat,i<s.limits.length→fl (i:Int)=some (p i)) (he:∀k:Nat,k<n→fe (k:Int)=some (E (k:Int))):
  Qat s fl fe=some (Qhf E n (sel s.limits p zL) (refP s.refs)):=by
 have hfew:=hs.few
 have hL:=hs.len
 have hR:=hs.rlen
 unfold Qat
 rw[hn,Qme n (0:Int) (by omega)]
 simp only[Option.bind_some]
 rw[Quw (E:=E) (Qmw hs.lim p) hs.refP (fun b=>if b=true then Sum.inl () else Sum.inr false) (fun v hv hz=>?_)]
 ·simp only[Option.bind_some]
  cases Qhf E n (sel s.limits p zL) (refP s.refs)<;>rfl
 ·have hset:∀(k m:Int) (t:List Int×Bool),0≤k→k<n→t.1.length=n→(upc t k m).1.length=n:=fun k m t _ _ ht=>by
   unfold upc;split
   ·simpa using ht
   ·exact ht
  rw[QuM (range s.limits.length) (fun i t=>if p i=true then QkR (s.limits.getD i zL) t else some t) (fun t=>t.1.length=n) false ?hI ?hb ?he (s:=(v,false)) hv]
  case hI=>
   intro i hi t t' ht h
   split at h
   ·unfold QkR at h
    split at h
    ·obtain rfl:=Option.some.inj h
     have hi:=mem_range.1 hi
     have hy:=hs.lim _ (getElem_mem hi)
     have hk:=QiI hy
     rw[getD_eq_getElem?_getD,getElem?_eq_getElem hi]
     exact hset _ _ t hk.1 hk.2 ht
    ·cases h
   ·obtain rfl:=Option.some.inj h;exact ht
  case hb=>
   intro k hk t ht
   rw[length_range] at hk
   have hy:=hs.lim _ (getElem_mem hk)
   have hkk:=QiI hy
   have hg:s.limits.getD k zL=s.limits[k]:=by rw[getD_eq_getElem?_getD,getElem?_eq_getElem hk];rfl
   dsimp only
   rw[if_pos (by simpa using hk),getElem_range,hg]
   unfold jn
   rw[QY hk]
   simp only[Option.bind_some]
   rw[hl k hk]
   simp only[Option.bind_some]
   cases hp:p k with
   | false=>rw[if_pos (show (!false)=true from rfl),if_neg (show ¬(false=true) by decide),QK hk (by omega)]
   | true=>
    rw[if_neg (show ¬((!true)=true) by decide),if_pos rfl,QwB hy ht]
    simp only[Option.bind_some]
    unfold QkR
    cases hb:rsB s.limits[k] t.1 with
    | false=>rw[if_pos (show (!false)=true from rfl),if_neg (show ¬(false=true) by decide)]
    | true=>
     rw[if_neg (show ¬((!true)=true) by decide),if_pos rfl,QuO hkk.1 (by rw[ht];exact hkk.2)]
     simp only[Option.bind_some]
     rw[QK hk (by omega)]
  case he=>intro t;dsimp only;rw[length_range,if_neg (by simp)]
  rw[Qkl QkR (fun i=>s.limits.getD i zL) p]
  rw[show ((range s.limits.length).filter p).map (fun i=>s.limits.getD i zL)=sel s.limits p zL from rfl,QpL _ v false (Qmw hs.lim p) hv]
  unfold rnd
  cases hu:rndL (sel s.limits p zL) v with
  | none=>rfl
  | some u=>
   have hvu:=QiJ _ v u (Qmw hs.lim p) hv hu
   have hul:u.length=n:=hvu.1.symm.trans hv
   simp only[Option.map_some,Option.bind_some,Bool.false_or]
   rw[QwA s.refs (fun r t=>Qmv (r.a0,r.a1) t) (fun t=>t.1.length=n) (fun r hr t ht=>hset _ _ t (hs.refs r hr).2.1 (hs.refs r hr).2.2 ht) (fun k hk t ht=>?_) (fun t=>by rw[if_neg (by simp)]) (s:=(u,decide (u≠v))) hul]
   ·have e1:s.refs.foldl (fun t r=>Qmv (r.a0,r.a1) t) (u,decide (u≠v))=(refP s.refs).foldl (fun t r=>Qmv r t) (u,decide (u≠v)):=by
     unfold Go.Proofs.YtlajingmjmnfgaaGreatDoor.refP;rw[foldl_map]
    rw[e1,QpM (n:=n) _ _ _ (fun r hr=>(hs.refP r hr).2) hul]
    have huw:=QiK (n:=n) (refP s.refs) u (fun r hr=>(hs.refP r hr).2) hul
    generalize hw:rndR (refP s.refs) u=w at huw ⊢
    have hwl:w.length=n:=huw.1.symm.trans hul
    simp only[Option.bind_some]
    rw[QuP (n:=n) (E:=E) (w:=w) (fun k hk=>?_) (by rw[hwl,if_neg (by simp)])]
    ·have e2:(decide (u≠v)||decide (w≠u))=decide (w≠v):=by
      rw[Bool.eq_iff_iff]
      simp only[ne_eq,decide_not,Bool.or_eq_true,Bool.not_eq_true',decide_eq_false_iff_not]
      constructor
      ·rintro (h | h) e
       ·exact h (huw.anti (by rw[e];exact hvu) |>.trans e)
       ·exact h (by rw[e];exact (hvu.anti (by rw[e] at huw;exact huw)))
      ·intro h
       by_cases e:u=v
       ·exact .inr fun e2=>h (e2.trans e)
       ·exact .inl e
     rw[e2]
     simp only[Option.bind_some]
     cases ho:over E n w with
     | true=>rfl
     | false=>
      by_cases e:w=v
      ·simp[e]
      ·simp[e]
    ·have hi:=QiF (c:=w) (i:=(k:Int)) (by omega) (by omega)
     rw[hwl,if_pos (by simpa using hk),hi]
     simp only[Option.bind_some]
     have hop:(opt (((decide (nth w (k:Int)>(65536:Int)))==false)&&((decide (nth w (k:Int)>(0:Int)))==true)) (fe (k:Int)) default)=some (if (((decide (nth w (k:Int)>(65536:Int)))==false)&&((decide (nth w (k:Int)>(0:Int)))==true))=true then E (k:Int) else default):=by
      unfold opt;split
      ·exact he k hk
      ·rfl
     rw[hop]
     simp only[Option.bind_some]
     rw[QK hk (by omega)]
     have e3:((decide (nth w (k:Int)>(65536:Int)))||((decide (nth w (k:Int)>(0:Int)))&&(if (((decide (nth w (k:Int)>(65536:Int)))==false)&&((decide (nth w (k:Int)>(0:Int)))==true))=true then E (k:Int) else default)))=(decide (65536<nth w (k:Int))||(decide (0<nth w (k:Int))&&E (k:Int))):=by
      by_cases h1:nth w (k:Int)>65536
      ·simp[h1]
      ·by_cases h2:nth w (k:Int)>0
       ·simp[h1,h2]
       ·simp[h1,h2]
     rw[e3]
     split<;>rfl
   ·have hr:=hs.refs _ (getElem_mem hk)
    rw[if_pos (by simpa using hk),QY hk]
    simp only[Option.bind_some]
    rw[QiF hr.1.1 (by rw[ht];exact hr.1.2)]
    simp only[Option.bind_some]
    rw[QuO hr.2.1 (by rw[ht];exact hr.2.2)]
    simp only[Option.bind_some]
    rw[QK hk (by omega)]
    rfl
/-! The model -/
end Go.Proofs.YtlajingmjmnfgaaGreatDoor
namespace Go.Proofs.YtlajingmjmnfgaaGreatDoor
open Go.Sim
theorem ref_up {x:Qa} (hc:QP x=[]) {i j:Nat} (hi:i<x.Kinds.length) (hj:j<x.Kinds[i].Fields.length) (hk:x.Kinds[i].Fields[j].Kind=1):0≤upIx x (i:Int) (j:Int)∧upIx x (i:Int) (j:Int)<(x.Kinds.length:Int):=by
 have h1:=Qpo (clean hc (QY hi) (QpI hi hj)) (.inl hk)
 have h2:=(Qrd x (i:Int) (j:Int) (by omega)).1
 exact⟨h1,by omega⟩
theorem Qy4 {x:Qa} (hc:QP x=[]) {i j:Nat} (hi:i<x.Kinds.length):∀r∈refF x i x.Kinds[i] j,(0≤r.a0∧r.a0<(x.Kinds.length:Int))∧(0≤r.a1∧r.a1<(x.Kinds.length:Int)):=by
 intro r hr
 unfold refF at hr
 by_cases hj:j<x.Kinds[i].Fields.length
 ·rw[getElem?_eq_getElem hj] at hr
  dsimp only at hr
  split at hr
  ·next hk=>
   obtain rfl:=mem_singleton.1 hr
   have:=ref_up hc hi hj (by simpa using hk)
   exact⟨⟨by dsimp only;omega,by dsimp only;omega⟩,this⟩
  ·cases hr
 ·rw[getElem?_eq_none (by omega)] at hr
  cases hr
theorem Qy5 {x:Qa} (hc:QP x=[]) {i:Nat} (hi:i<x.Kinds.length):∀r∈refK x i,(0≤r.a0∧r.a0<(x.Kinds.length:Int))∧(0≤r.a1∧r.a1<(x.Kinds.length:Int)):=by
 intro r hr
 unfold refK at hr
 rw[getElem?_eq_getElem hi] at hr
 obtain⟨j,_,hr⟩:=mem_flatMap.1 hr
 exact Qy4 hc hi r hr
theorem QwC {x:Qa} (hc:QP x=[]):∀r∈QfS x,(0≤r.a0∧r.a0<(x.Kinds.length:Int))∧(0≤r.a1∧r.a1<(x.Kinds.length:Int)):=by
 intro r hr
 obtain⟨i,hi,hr⟩:=mem_flatMap.1 hr
 exact Qy5 hc (mem_range.1 hi) r hr
theorem Qh8 {x:Qa} (hc:QP x=[]):StOk x.Kinds.length (limL Qg.mk x) (QfS x) where
 few:=(Qal hc).kinds
 lim:=fun y hy=>(QuK hc y hy).1
 refs:=QwC hc
 len:=by
  have hv:=Qal hc
  have h1:=Qbm x.Kinds.length (kndL Qg.mk x) 22 fun j _=>(QkK Qg.mk hv j).1
  have:=hv.kinds
  unfold limL;omega
 rlen:=by have:=Quu (Qal hc);omega
theorem Qsq {E F:Int→Bool} {n:Nat} {v:List Int} (h:∀k:Nat,k<n→E (k:Int)=F (k:Int)):over E n v=over F n v:=by
 rw[Bool.eq_iff_iff]
 unfold over
 simp only[any_eq_true,mem_range]
 constructor
 ·rintro ⟨k,hk,h1⟩;exact⟨k,hk,by rw[←h k hk];exact h1⟩
 ·rintro ⟨k,hk,h1⟩;exact⟨k,hk,by rw[h k hk];exact h1⟩
end Go.Proofs.YtlajingmjmnfgaaGreatDoor
namespace Go.Proofs.YtlajingmjmnfgaaGreatDoor
open Go.Sim
/-- A loop that keeps some, in a form. -/
theorem Qy6 {α β:Type} (l:List α) (p:α→Bool) (g:α→β) {body:Int×List β→Option ((Int×List β)⊕List β)}
  (hs:∀k (h:k<l.length) (acc:List β),acc.length≤k→body ((k:Int),acc)=some (.inl (((k+1:Nat):Int),if p l[k]=true then acc++[g l[k]] else acc))) (he:∀acc,body ((l.length:Int),acc)=some (.inr acc)):
  Qo body ((0:Int),[])=some ((l.filter p).map g):=by
 have h:=Qca (body:=body) l.length (fun n=>((n:Int),((l.take n).filter p).map g)) ((l.filter p).map g) (fun k hk=>?_) ?_
 ·simpa using h
 ·rw[hs k hk _ (by rw[length_map];exact Nat.le_trans (length_filter_le _ _) (by rw[length_take];omega)),take_succ_eq_append_getElem hk,filter_append,map_append]
  by_cases hp:p l[k]=true
  ·rw[if_pos hp];simp[hp]
  ·rw[if_neg hp];simp[hp]
 ·rw[he];simp
theorem QwD {x:Qa} {k:Int} {p:Nat→Bool} {j:Nat} (h:j<(ownI x k p).length):(ownI x k p).getD j 0=(ownI x k p)[j]:=by
 rw[getD_eq_getElem?_getD,getElem?_eq_getElem h];rfl
/-- The indices in a smallest contradiction are of the rules that were given. -/
theorem Qmx {x:Qa} (hc:QP x=[]) {k:Int} (k0:0≤k) (k1:k<x.Kinds.length) (p:Nat→Bool):(cycS (flen x k:Int) (ownD x k p)).1.length≤12∧∀c∈(cycS (flen x k:Int) (ownD x k p)).1,0≤c∧c<(ownI x k p).length:=by
 refine⟨Qwr _ _,fun c hcm=>?_⟩
 have hlen:(ownD x k p).length=(ownI x k p).length:=by unfold ownD;simp
 rw[QlB hc k0 k1 p] at hcm
 cases h:Qd3 (Qbs ((ownD x k p).map (edN (flen x k+1)))) (ownD x k p).length (flen x k) 2 with
 | none=>rw[h] at hcm;cases hcm
 | some q=>
  rw[h] at hcm
  obtain⟨js,hq,hj,_⟩:=Qzx (QgW hc k0 k1 p) h
  dsimp only at hcm
  rw[hq] at hcm
  obtain⟨j,hjm,rfl⟩:=mem_map.1 hcm
  have:=hj j hjm
  exact⟨by omega,by omega⟩
theorem Qy7 {x:Qa} {i:Nat} (hi:i<x.Kinds.length):flen x (i:Int)=x.Kinds[i].Fields.length:=by unfold flen;rw[QY hi]
theorem Qm9 {x:Qa} {k:Int} {p:Nat→Bool}:(cycN x k p).length=(cycS (flen x k:Int) (ownD x k p)).1.length:=by unfold cycN;simp
def ints (l:List Nat):List Int:=l.map fun (i:Nat)=>(i:Int)
theorem QiO {x:Qa} (hc:QP x=[]) {i:Nat} (hi:i<x.Kinds.length) {f:Int→Option Bool} {p:Nat→Bool} (hf:∀j:Nat,j<(Qap x).length→f (j:Int)=some (p j)):
  Qcf (Qa4 x) (i:Int) f=some (ints (cycN x (i:Int) p)):=by
 have hv:=Qal hc
 have hdl:=QgS hv
 obtain⟨D,hD⟩:∃D,(Qap x).map mkD=D:=⟨_,rfl⟩
 have hDl:D.length=(Qap x).length:=by rw[←hD];simp
 unfold Qcf
 rw[show (Qa4 x).diffs=D from hD,show ((Qa4 x).x)=x from rfl]
 have hget:∀j (h:j<D.length),D[j]=mkD ((Qap x)[j]'(by omega)):=fun j h=>by subst hD;simp
 have hlen:∀n,(((range n).filter fun j=>dK x j==(i:Int)&&p j)).length≤n:=fun n=>by
  have:=length_filter_le (fun j=>dK x j==(i:Int)&&p j) (range n)
  rwa [length_range] at this
 refine Qeu (ρ:=List Int×List QM) D.length (fun n=>((n:Int),ints ((range n).filter fun j=>dK x j==(i:Int)&&p j),((range n).filter fun j=>dK x j==(i:Int)&&p j).map (dD x))) (ints (ownI x (i:Int) p),ownD x (i:Int) p) rfl (fun n hn=>?_) ?_ ?_
 ·have hn':n<(Qap x).length:=by omega
  dsimp only
  rw[if_pos (by simpa using hn),QY hn,hget n hn]
  simp only[Option.bind_some]
  have hk:dK x n=(mkD (Qap x)[n]).kind:=by unfold dK;rw[QgV hn'];rfl
  have hd:dD x n=(mkD (Qap x)[n]).Diff:=by unfold dD;rw[QgV hn'];rfl
  rw[←hk,←hd,QK hn (by omega),range_succ,filter_append]
  have h1:=hlen n
  cases hkk:(dK x n==(i:Int)) with
  | false=>
   simp[opt,hkk]
  | true=>
   simp only[opt,beq_self_eq_true,if_true]
   rw[hf n hn']
   simp only[Option.bind_some,Bool.true_and]
   cases hp:p n with
   | false=>simp[hkk,hp]
   | true=>
    rw[if_pos rfl,Qcj (by simp;omega)]
    simp only[Option.bind_some]
    rw[Qcj (by unfold ints;simp;omega)]
    simp[hkk,hp,ints]
 ·dsimp only
  rw[if_neg (by simp)]
  unfold ownI ownD ownI
  rw[hDl]
 ·simp only[Option.bind_some]
  rw[QY hi]
  simp only[Option.bind_some]
  rw[cyc_is]
  simp only[Option.bind_some]
  rw[←Qy7 hi]
  have k1:(i:Int)<x.Kinds.length:=by omega
  obtain⟨l12,hjs⟩:=Qmx hc (by omega) k1 p
  by_cases he:(cycS (flen x (i:Int):Int) (ownD x (i:Int) p)).2=0
  ·rw[if_neg (by simpa using he)]
   have hne:cycN x (i:Int) p≠[]:=fun h=>((QiM hc (by omega) k1 p).2.1 h) he
   rw[Qpc (cycS (flen x (i:Int):Int) (ownD x (i:Int) p)).1 (fun c=>(((ownI x (i:Int) p).getD c.toNat 0:Nat):Int)) (fun k hk acc ha=>?_) (fun acc=>by rw[if_neg (by simp)])]
   ·simp only[Option.bind_some]
    have e:((cycS (flen x (i:Int):Int) (ownD x (i:Int) p)).1.map fun c=>(((ownI x (i:Int) p).getD c.toNat 0:Nat):Int))=ints (cycN x (i:Int) p):=by
     unfold ints cycN;rw[map_map];rfl
    rw[e]
    cases hcy:cycN x (i:Int) p with
    | nil=>exact absurd hcy hne
    | cons a l=>rfl
   ·have hcm:=hjs _ (getElem_mem hk)
    dsimp only
    rw[if_pos (by simpa using hk),QY hk]
    simp only[Option.bind_some]
    obtain⟨j,hj⟩:=Int.eq_ofNat_of_zero_le hcm.1
    have hjl:j<(ownI x (i:Int) p).length:=by omega
    rw[hj,QY (xs:=ints (ownI x (i:Int) p)) (by unfold ints;simpa using hjl)]
    simp only[Option.bind_some,Int.toNat_natCast]
    rw[Qcj (by simp;omega),QK hk (by omega),QwD hjl]
    simp[ints]
  ·rw[if_pos (by simpa using he)]
   have:cycN x (i:Int) p=[]:=(QiM hc (by omega) k1 p).2.2 he
   rw[this];rfl
end Go.Proofs.YtlajingmjmnfgaaGreatDoor
namespace Go.Proofs.YtlajingmjmnfgaaGreatDoor
open Go.Sim
def QeE (x:Qa):List Qg:=limL Qg.mk x
def nLim (x:Qa):Nat:=(QeE x).length
/-- Whether some of the rules can be kept. -/
def QeF (x:Qa) (I:Nat→Bool):Bool:=
 Qhf (fun k=>!(cycN x k fun j=>I (nLim x+j)).isEmpty) x.Kinds.length (sel (QeE x) I zL) (refP (QfS x))
theorem Qqv {α:Type} {l:List α} {p q:α→Bool} (h:∀a∈l,p a=q a):l.filter p=l.filter q:=filter_congr h
theorem QnN {α:Type} {l:List α} {p q:Nat→Bool} {d:α} (h:∀i,i<l.length→p i=q i):sel l p d=sel l q d:=by
 unfold sel
 rw[Qqv fun i hi=>h i (mem_range.1 hi)]
theorem Qrm {s:List Nat} {i:Nat} (hs:s.length≤1000):Qax (i:Int) (ints s)=some (s.contains i):=by
 unfold Qax QcZ QdX
 rw[Qmg (ints s) (fun v=>(i:Int)==v) (fun k hk=>?_) ?_]
 ·have e:s.contains i=(ints s).any fun v=>(i:Int)==v:=by
   unfold ints
   rw[any_map,contains_eq_any_beq]
   congr 1
   funext j
   rw[Bool.eq_iff_iff];simp;omega
  rw[e,←QyK]
  unfold fIx
  cases (ints s).findIdx? fun v=>(i:Int)==v<;>rfl
 ·rw[if_neg (by simp)]
 ·rw[if_pos (by simpa using hk),QY hk]
  simp only[Option.bind_some]
  rw[QK hk (by unfold ints;simp;omega)]
theorem Qrn {x:Qa} (hc:QP x=[]) {s:List Nat} (hs:s.length≤1000):Qcp (Qa4 x) (ints s)=some (QeF x fun i=>s.contains i):=by
 have hst:=Qh8 hc
 unfold Qcp
 rw[Qil (s:=Qa4 x) (n:=x.Kinds.length) rfl hst (p:=fun i=>s.contains i) (E:=fun k=>!(cycN x k fun j=>s.contains (nLim x+j)).isEmpty) (fun i _=>Qrm hs) (fun k hk=>?_)]
 ·rfl
 ·unfold QdI
  rw[QiO hc hk (p:=fun j=>s.contains (nLim x+j)) (fun j hj=>?_)]
  ·simp only[Option.bind_some]
   congr 2
   unfold ints
   cases cycN x (k:Int) fun j=>s.contains (nLim x+j)<;>rfl
  ·unfold Qb7
   have h1:=QgS (Qal hc)
   have h2:=hst.len
   have e:i64.wrap (((Qa4 x).limits.length:Int)+(j:Int))=((nLim x+j:Nat):Int):=by
    show i64.wrap (((limL Qg.mk x).length:Int)+(j:Int))=_
    unfold nLim QeE
    rw[w64 (by omega) (by omega)];omega
   rw[e]
   show ((Qax ((nLim x+j:Nat):Int) (ints s)).bind fun t13=>some t13)=_
   rw[Qrm hs];rfl
/-! The model -/
theorem QnO {x:Qa}:(namL x).length=nLim x:=by
 unfold nLim QeE namL limL
 rw[length_flatMap,length_flatMap]
 congr 1
 refine map_congr_left fun i hi=>?_
 unfold kndN kndL
 cases x.Kinds[i]? with
 | none=>rfl
 | some q=>
  dsimp only
  rw[length_append,length_append,length_flatMap,length_flatMap]
  refine congrArg (2+sum ·) ?_
  refine map_congr_left fun j hj=>?_
  unfold fldN fldL
  cases q.Fields[j]? with
  | none=>rfl
  | some f=>dsimp only;split<;>rfl
theorem QgX (x:Qa):(QcT x).length=nLim x+(Qap x).length:=by unfold QcT;rw[length_append,QnO,length_map]
def QgY (x:Qa) (i:Nat):Str:=(QcT x).getD i []
end Go.Proofs.YtlajingmjmnfgaaGreatDoor
namespace Go.Proofs.YtlajingmjmnfgaaGreatDoor
open Go.Sim
/-- The indices of names that stand in their order in a list. -/
def Qdr (all:List Str):List Str→Nat→Option (List Nat)
 | [],_=>some []
 | n::l,b=>match all.findIdx? (fun t=>n==t) with
  | some i=>if b≤i then (Qdr all l (i+1)).map (i::·) else none
  | none=>none
def Qmy (x:Qa) (names:List Str):Int:=match QP x with
 | p::_=>p.Code
 | []=>if nLim x>16 then 4 else match Qdr (QcT x) names 0 with
  | none=>12
  | some js=>if QeF x (fun i=>js.contains i)=true then 15 else if ((range js.length).all fun s=>QeF x fun i=>(js.eraseIdx s).contains i)=true then 0 else 15
theorem Qmz {all:List Str}:∀{l:List Str} {b:Nat} {js:List Nat},Qdr all l b=some js→l=js.map (fun i=>all.getD i [])∧js.Pairwise (·< ·)∧∀j∈js,b≤j∧j<all.length
 | [],b,js,h=>by obtain rfl:=Option.some.inj h;simp
 | n::l,b,js,h=>by
  unfold Qdr at h
  cases hi:all.findIdx? (fun t=>n==t) with
  | none=>rw[hi] at h;cases h
  | some i=>
   rw[hi] at h
   dsimp only at h
   split at h
   ·next hb=>
    cases hm:Qdr all l (i+1) with
    | none=>rw[hm] at h;cases h
    | some ks=>
     rw[hm] at h
     obtain rfl:=Option.some.inj h
     obtain⟨h1,h2,h3⟩:=Qmz hm
     obtain⟨hl,hp,_⟩:=findIdx?_eq_some_iff_getElem.1 hi
     refine⟨?_,pairwise_cons.2 ⟨fun j hj=>(h3 j hj).1,h2⟩,fun j hj=>?_⟩
     ·rw[map_cons,←h1,getD_eq_getElem?_getD,getElem?_eq_getElem hl]
      have:n=all[i]:=by simpa using hp
      rw[this];rfl
     ·rcases mem_cons.1 hj with rfl | hj
      ·exact⟨hb,hl⟩
      ·have:=h3 j hj
       exact⟨by omega,this.2⟩
   ·cases h
theorem QuQ {all l:List Str} {b:Nat} {js:List Nat} (h:Qdr all l b=some js):js.length=l.length∧js.length≤all.length:=by
 obtain⟨h1,h2,h3⟩:=Qmz h
 have e:js.length=l.length:=by rw[h1];simp
 have hn:js.Nodup:=h2.imp fun h=>by omega
 have:=Qf4 js (range all.length) hn fun j hj=>mem_range.2 (h3 j hj).2
 rw[length_range] at this
 exact⟨e,this⟩
theorem QuR {α:Type} {l:List α} (h:l.Nodup) {i j:Nat} (hi:i<l.length) (hj:j<l.length) (e:l[i]=l[j]):i=j:=by
 have hp:=pairwise_iff_getElem.1 (show Pairwise (·≠·) l from h)
 rcases Nat.lt_trichotomy i j with h' | h' | h'
 ·exact absurd e (hp i j hi hj h')
 ·exact h'
 ·exact absurd e.symm (hp j i hj hi h')
theorem QwE {l:List Str} {n:Str} (hl:l.length≤1000000):QbJ l n=some (match l.findIdx? (fun t=>n==t) with | some k=>(k:Int) | none=>-1):=by
 unfold QbJ
 rw[Qmg l (fun t=>n==t) (fun k hk=>?_) (by rw[if_neg (by simp)])]
 ·cases l.findIdx? (fun t=>n==t)<;>rfl
 ·rw[if_pos (by simpa using hk),QY hk]
  simp only[Option.bind_some]
  rw[QK hk (by omega)]
def Qhi (acc:List Nat):Nat:=match acc.getLast? with | some a=>a+1 | none=>0
theorem QuS {all names:List Str} (ha:all.length≤1000) (hn:names.length≤1000000) {body:Int×List Int→Option ((Int×List Int)⊕(List Int⊕Int))}
  (hb:∀k (h:k<names.length) (acc:List Nat),acc.length≤k→body ((k:Int),ints acc)=(QbJ all names[k]).bind fun t37=>(opt (((decide (t37<(0:Int)))==false)&&((decide (((ints acc).length:Int)>(0:Int)))==true)) (idx (ints acc) (i64.wrap (((ints acc).length:Int) - (1:Int)))) default).bind fun t50=>(if ((decide (t37<(0:Int)))||((decide (((ints acc).length:Int)>(0:Int)))&&(decide (t37≤t50))))=true then (some (.inr (.inr (12:Int)))) else (rm ((ints acc).length+[t37].length)).bind fun _=>(some (.inl ((i64.wrap ((k:Int)+(1:Int))),((ints acc)++[t37]))))))
  (he:∀acc:List Nat,body ((names.length:Int),ints acc)=some (.inr (.inl (ints acc)))):
  Qo body ((0:Int),[])=some (match Qdr all names 0 with | some js=>.inl (ints js) | none=>.inr (12:Int)):=by
 have key:∀m k (acc:List Nat),k+m=names.length→acc.length≤k→Qo body ((k:Int),ints acc)=some (match Qdr all (names.drop k) (Qhi acc) with | some js=>.inl (ints (acc++js)) | none=>.inr (12:Int)):=by
  intro m
  induction m with
  | zero=>
   intro k acc hk _
   have:k=names.length:=by omega
   subst this
   rw[Qan,he,drop_length]
   simp[Qdr]
  | succ m ih=>
   intro k acc hk hal
   have hkl:k<names.length:=by omega
   rw[Qan,hb k hkl acc hal,QwE (by omega),drop_eq_getElem_cons hkl]
   unfold Qdr
   cases hi:all.findIdx? (fun t=>names[k]==t) with
   | none=>simp[opt]
   | some i=>
    obtain⟨hil,_,_⟩:=findIdx?_eq_some_iff_getElem.1 hi
    simp only[Option.bind_some]
    have hneg:decide ((i:Int)<0)=false:=decide_eq_false (by omega)
    rw[hneg]
    have hcond:∃t,(opt ((false==false)&&((decide (((ints acc).length:Int)>(0:Int)))==true)) (idx (ints acc) (i64.wrap (((ints acc).length:Int) - (1:Int)))) default)=some t∧(false||((decide (((ints acc).length:Int)>(0:Int)))&&(decide ((i:Int)≤t))))=!decide (Qhi acc≤i):=by
     have hlen:(ints acc).length=acc.length:=by unfold ints;simp
     rcases eq_nil_or_concat acc with rfl | ⟨pre,a,rfl⟩
     ·exact⟨default,by simp[opt,ints],by simp[ints,Qhi]⟩
     ·simp only[concat_eq_append] at hlen hal ⊢
      rw[hlen]
      have e1:i64.wrap (((pre++[a]).length:Int) - 1)=(pre.length:Int):=by rw[length_append];simp;rw[w64 (by omega) (by simp at hal;omega)]
      refine⟨(a:Int),?_,?_⟩
      ·rw[e1,QaU]
       have:(ints (pre++[a]))[pre.length]?=some (a:Int):=by unfold ints;simp
       rw[this]
       simp[opt]
      ·have:Qhi (pre++[a])=a+1:=by unfold Qhi;simp
       rw[this,Bool.eq_iff_iff]
       simp
       omega
    obtain⟨t,ht,hc⟩:=hcond
    rw[ht]
    simp only[Option.bind_some]
    rw[hc]
    by_cases hle:Qhi acc≤i
    ·rw[decide_eq_true hle]
     simp only[Bool.not_true,Bool.false_eq_true,if_false,if_pos hle]
     rw[Qcj (by unfold ints;simp;omega),QK hkl (by omega)]
     simp only[Option.bind_some]
     have e:ints acc++[(i:Int)]=ints (acc++[i]):=by unfold ints;simp
     rw[e,ih (k+1) (acc++[i]) (by omega) (by simp;omega)]
     have e2:Qhi (acc++[i])=i+1:=by unfold Qhi;simp
     rw[e2]
     cases Qdr all (names.drop (k+1)) (i+1) with
     | none=>rfl
     | some js=>simp
    ·rw[decide_eq_false hle]
     simp[hle]
 have:=key names.length 0 [] (by omega) (by simp)
 rw[drop_zero] at this
 simpa[Qhi,ints] using this
theorem Qsr (js:List Nat) (s:Nat):(ints js).take s++(ints js).drop (s+1)=ints (js.eraseIdx s):=by
 unfold ints
 rw[eraseIdx_eq_take_drop_succ,map_append,map_take,map_drop]
theorem Qss {x:Qa} (hs:QeB x) {names:List Str} (hn:names.length≤1000000):QfI x names=some (Qmy x names):=by
 unfold QfI Qmy
 rw[Qpr hs]
 unfold Qmo
 cases hc:QP x with
 | cons p l=>
  have:=Qjl (x:=x) (p:=p) (by rw[hc];exact mem_cons_self ..)
  dsimp only[Option.bind_some]
  rw[if_pos (by simpa using this)]
 | nil=>
  have hv:=Qal hc
  have hst:=Qh8 hc
  have hnl:(QcT x).length≤1000:=by
   have h1:=QgS hv
   have h2:=Qls hv
   unfold QcT
   rw[length_append,length_map];omega
  dsimp only[Option.bind_some]
  rw[if_neg (by simp),Qpu hs hc]
  simp only[Option.bind_some]
  rw[show (Qa4 x).limits=QeE x from rfl]
  by_cases h16:nLim x>16
  ·rw[if_pos (decide_eq_true (by unfold nLim at h16;omega)),if_pos h16]
  ·rw[if_neg (by simp;unfold nLim at h16;omega),if_neg h16]
   rw[QuS (all:=QcT x) (names:=names) hnl hn (fun k hk acc _=>by
    dsimp only
    rw[if_pos (by simpa using hk),QY hk];rfl) (fun acc=>by rw[if_neg (by simp)])]
   simp only[Option.bind_some]
   cases hm:Qdr (QcT x) names 0 with
   | none=>rfl
   | some js=>
    have hjl:=(QuQ hm).2
    dsimp only
    rw[Qrn hc (by omega)]
    simp only[Option.bind_some]
    cases hk:QeF x fun i=>js.contains i with
    | true=>rfl
    | false=>
     rw[if_neg (by simp),if_neg (by simp)]
     have hil:(ints js).length=js.length:=by unfold ints;simp
     rw[Qpb (range js.length) (fun s=>QeF x fun i=>(js.eraseIdx s).contains i) (15:Int) (fun s hs'=>?_) (by rw[length_range,hil,if_neg (by simp)])]
     ·cases (range js.length).all fun s=>QeF x fun i=>(js.eraseIdx s).contains i<;>rfl
     ·rw[length_range] at hs'
      rw[hil,if_pos (by simpa using hs'),getElem_range]
      unfold QdY
      rw[Qcj (by simp;omega)]
      simp only[Option.bind_some,nil_append]
      rw[QK hs' (by omega)]
      unfold QdC
      rw[if_pos ⟨by omega,by omega,by omega,by omega⟩]
      simp only[Option.bind_some,Int.toNat_natCast]
      rw[Qsr,Qrn hc (by have:=length_eraseIdx_le js s;omega)]
      simp only[Option.bind_some]
      cases QeF x fun i=>(js.eraseIdx s).contains i<;>rfl
/-! The model -/
end Go.Proofs.YtlajingmjmnfgaaGreatDoor
namespace Go.Proofs.YtlajingmjmnfgaaGreatDoor
open Go.Sim
def cyc (x:Qa) (k:Nat):List Nat:=cycN x (k:Int) fun _=>true
def recS (x:Qa) (K:Nat):List Nat:=(range x.Kinds.length).flatMap fun k=>if K.testBit k=true then cyc x k else []
def Qdu (x:Qa) (m K:Nat):Bool:=Qhf (fun k=>K.testBit k.toNat) x.Kinds.length (sel (QeE x) (fun i=>m.testBit i) zL) (refP (QfS x))
def Qc1 (x:Qa):Bool:=Qhf (fun k=>!(cycN x k fun _=>true).isEmpty) x.Kinds.length (sel (QeE x) (fun _=>true) zL) (refP (QfS x))
def Qh9 (x:Qa) (K:Nat):Prop:=K<2 ^ x.Kinds.length∧∀k,k<x.Kinds.length→K.testBit k=true→cyc x k≠[]
def Qbe (x:Qa) (K m:Nat):Nat:=ones m+(recS x K).length
def wOf (x:Qa) (K m:Nat):List Nat:=setL (nLim x) m++(recS x K).map fun c=>nLim x+c
structure BadM (x:Qa) (K m:Nat):Prop where
 good:Qh9 x K
 lt:m<2 ^ nLim x
 bad:Qdu x m K=false
structure MinM (x:Qa) (K m:Nat):Prop where
 bad:BadM x K m
 min:∀K' m',BadM x K' m'→Qbe x K m≤Qbe x K' m'
theorem QiP (p:Nat→Bool):∀n,∃K,K<2 ^ n∧∀k,k<n→K.testBit k=p k
 | 0=>⟨0,by omega,fun k hk=>by omega⟩
 | n+1=>by
  obtain⟨K,h1,h2⟩:=QiP (fun k=>p (k+1)) n
  cases hp:p 0 with
  | true=>
   refine⟨2 * K+1,by rw[Nat.pow_succ];omega,fun k hk=>?_⟩
   cases k with
   | zero=>rw[Qwe,hp]
   | succ k=>rw[QyL];exact h2 k (by omega)
  | false=>
   refine⟨2 * K,by rw[Nat.pow_succ];omega,fun k hk=>?_⟩
   cases k with
   | zero=>rw[Qt4,hp]
   | succ k=>rw[Qwd];exact h2 k (by omega)
theorem Qla {n:Nat} {E F:Int→Bool} {l:List Qg} {r:List (Int×Int)} (h:∀k:Nat,k<n→E (k:Int)=F (k:Int)):Qhf E n l r=Qhf F n l r:=by
 have key:∀(f:Nat) (v:List Int),Qhe E n l r f v=Qhe F n l r f v:=by
  intro f
  induction f with
  | zero=>intro v;rfl
  | succ f ih=>
   intro v
   unfold Qhe
   cases rnd l r v with
   | none=>rfl
   | some w=>
    dsimp only
    rw[Qsq h,ih w]
 exact key _ _
section
variable {x:Qa} (hc:QP x=[])
include hc
theorem QhP {k:Nat} (hk:k<x.Kinds.length) {c:Nat} (h:c∈cyc x k):c<(Qap x).length∧dK x c=(k:Int):=by
 have hne:cycN x (k:Int) (fun _=>true)≠[]:=fun e=>by unfold cyc at h;rw[e] at h;cases h
 have:=(QlC hc (by omega) (by omega) _ hne).1 c h
 exact⟨this.1,this.2.1⟩
theorem QuT {k:Nat} (hk:k<x.Kinds.length):(cyc x k).Nodup:=by
 by_cases hne:cycN x (k:Int) (fun _=>true)=[]
 ·unfold cyc;rw[hne];exact nodup_nil
 ·exact (QlC hc (by omega) (by omega) _ hne).2.1
omit hc in
theorem Qfz {K c:Nat}:c∈recS x K↔∃k,k<x.Kinds.length∧K.testBit k=true∧c∈cyc x k:=by
 unfold recS
 simp only[mem_flatMap,mem_range]
 constructor
 ·rintro ⟨k,hk,h⟩
  split at h
  ·next hb=>exact⟨k,hk,hb,h⟩
  ·cases h
 ·rintro ⟨k,hk,hb,h⟩
  exact⟨k,hk,by rw[if_pos hb];exact h⟩
theorem Qia (K:Nat):(recS x K).Nodup:=by
 unfold recS
 refine Qfy (fun c=>(dK x c).toNat) _ _ fun k hk=>⟨?_,fun c h=>?_⟩
 ·split
  ·exact QuT hc hk
  ·exact nodup_nil
 ·split at h
  ·have:=(QhP hc hk h).2
   omega
  ·cases h
theorem QpN {K c:Nat} (h:c∈recS x K):c<(Qap x).length:=by
 obtain⟨k,hk,_,h⟩:=Qfz.1 h
 exact (QhP hc hk h).1
theorem Qy8 (K:Nat):(recS x K).length≤(Qap x).length:=by
 have:=Qf4 _ (range (Qap x).length) (Qia hc K) fun c h=>mem_range.2 (QpN hc h)
 rwa [length_range] at this
omit hc in
theorem Qjw (f m:Nat):(setL f m).Nodup:=Pairwise.sublist filter_sublist (nodup_range)
theorem Qy9 (K m:Nat):(wOf x K m).Nodup:=by
 unfold wOf
 refine nodup_append.2 ⟨Qjw _ _,?_,fun a ha b hb e=>?_⟩
 ·show Pairwise _ _
  rw[pairwise_map]
  exact (Qia hc K).imp fun h e=>h (by omega)
 ·obtain⟨c,_,rfl⟩:=mem_map.1 hb
  have:=(Qfj.1 ha).1
  omega
theorem w_lt {K m i:Nat} (h:i∈wOf x K m):i<nLim x+(Qap x).length:=by
 unfold wOf at h
 rcases mem_append.1 h with h | h
 ·have:=(Qfj.1 h).1;omega
 ·obtain⟨c,hcm,rfl⟩:=mem_map.1 h
  have:=QpN hc hcm
  omega
omit hc in
theorem Qon {K m i:Nat} (hi:i<nLim x):i∈wOf x K m↔m.testBit i=true:=by
 unfold wOf
 rw[mem_append,Qfj]
 constructor
 ·rintro (h | h)
  ·exact h.2
  ·obtain⟨c,_,e⟩:=mem_map.1 h;omega
 ·exact fun h=>.inl ⟨hi,h⟩
omit hc in
theorem QmA {K m c:Nat}:nLim x+c∈wOf x K m↔c∈recS x K:=by
 unfold wOf
 rw[mem_append]
 constructor
 ·rintro (h | h)
  ·have:=(Qfj.1 h).1;omega
  ·obtain⟨d,hd,e⟩:=mem_map.1 h
   have:d=c:=by omega
   rw[←this];exact hd
 ·exact fun h=>.inr (mem_map.2 ⟨c,h,rfl⟩)
omit hc in
theorem QkS {K m:Nat} (h16:nLim x≤16) (hm:m<2 ^ nLim x):(wOf x K m).length=Qbe x K m:=by
 unfold wOf Qbe
 rw[length_append,length_map,Qev _ _ h16 hm]
/-- Which kinds contradict themselves by some rules. -/
theorem QwF {k:Nat} (hk:k<x.Kinds.length) {I:Nat→Bool} {b:Bool} (h1:b=true→NegK x (k:Int) fun j=>I j=true) (h2:b=false→¬NegK x (k:Int) fun j=>I j=true):(!(cycN x (k:Int) I).isEmpty)=b:=by
 have h:=(QiM hc (k:=(k:Int)) (by omega) (by omega) I).1
 cases b with
 | true=>
  have:=h.2 (h1 rfl)
  cases hC:cycN x (k:Int) I with
  | nil=>exact absurd hC this
  | cons a l=>rfl
 | false=>
  cases hC:cycN x (k:Int) I with
  | nil=>rfl
  | cons a l=>exact absurd (h.1 (by rw[hC];simp)) (h2 rfl)
theorem Qna {k:Nat} (hk:k<x.Kinds.length) (hne:cyc x k≠[]):(NegK x (k:Int) fun j=>j∈cyc x k)∧∀c∈cyc x k,¬NegK x (k:Int) fun j=>j∈cyc x k∧j≠c:=
 have h:=QlC hc (k:=(k:Int)) (by omega) (by omega) _ hne
 ⟨h.2.2.1,h.2.2.2⟩
/-- Some rules are kept exactly if their limits can be, where kinds whose rules contradict each other are empty. -/
theorem Qkm {I:Nat→Bool} {m K:Nat} (hm:∀i,i<nLim x→I i=m.testBit i) (hK:∀k,k<x.Kinds.length→(K.testBit k=true→NegK x (k:Int) fun j=>I (nLim x+j)=true)∧(K.testBit k=false→¬NegK x (k:Int) fun j=>I (nLim x+j)=true)):QeF x I=Qdu x m K:=by
 unfold QeF Qdu
 rw[QnN (p:=I) (q:=fun i=>m.testBit i) (fun i hi=>hm i hi)]
 refine Qla fun k hk=>?_
 rw[Int.toNat_natCast]
 exact QwF hc hk (hK k hk).1 (hK k hk).2
omit hc in
theorem QwG {k:Int} {I:Nat→Prop} (h:NegK x k I):∃j,dK x j=k∧I j:=by
 obtain⟨i,es,h1,h2,h3⟩:=h
 cases es with
 | nil=>simp[esum] at h2
 | cons e es=>
  obtain⟨j,_,j2,j3,_⟩:=h3 e (mem_cons_self ..)
  exact⟨j,j2,j3⟩
theorem Qnb {K k:Nat} (hg:Qh9 x K) (hk:k<x.Kinds.length):(K.testBit k=true→NegK x (k:Int) fun j=>j∈recS x K)∧(K.testBit k=false→¬NegK x (k:Int) fun j=>j∈recS x K):=by
 refine⟨fun hb=>(Qna hc hk (hg.2 k hk hb)).1.mono fun j _ hj=>Qfz.2 ⟨k,hk,hb,hj⟩,fun hb hn=>?_⟩
 obtain⟨j,hj,hr⟩:=QwG hn
 obtain⟨k',hk',hb',hjc⟩:=Qfz.1 hr
 have:=(QhP hc hk' hjc).2
 have:k'=k:=by omega
 subst this
 rw[hb] at hb';cases hb'
/-- All rules of a pair: kept exactly if the pair can be. -/
theorem w_kept {js:List Nat} {K m:Nat} (hg:Qh9 x K) (hj:∀i,i∈js↔i∈wOf x K m):QeF x (fun i=>js.contains i)=Qdu x m K:=by
 refine Qkm hc (fun i hi=>?_) (fun k hk=>?_)
 ·rw[Bool.eq_iff_iff,contains_iff_mem,hj,Qon hi]
 ·have e:(fun j=>js.contains (nLim x+j)=true)=fun j=>j∈recS x K:=by
   funext j
   rw[contains_iff_mem,hj,QmA]
  rw[e]
  exact Qnb hc hg hk
/-- One rule less: kept, if the pair is the smallest. -/
theorem w_less {js:List Nat} {K m a:Nat} (h16:nLim x≤16) (hmin:MinM x K m) (ha:a∈wOf x K m) (hj:∀i,i∈js↔i∈wOf x K m∧i≠a):QeF x (fun i=>js.contains i)=true:=by
 have hg:=hmin.bad.good
 by_cases hlim:a<nLim x
 ·obtain⟨m',h1,h2⟩:=QiP (fun i=>m.testBit i&&decide (i≠a)) (nLim x)
  have e:QeF x (fun i=>js.contains i)=Qdu x m' K:=by
   refine Qkm hc (fun i hi=>?_) (fun k hk=>?_)
   ·rw[h2 i hi,Bool.eq_iff_iff,contains_iff_mem,hj,Qon hi];simp
   ·have e:(fun j=>js.contains (nLim x+j)=true)=fun j=>j∈recS x K:=by
     funext j
     rw[contains_iff_mem,hj,QmA]
     exact propext ⟨fun h=>h.1,fun h=>⟨h,by omega⟩⟩
    rw[e]
    exact Qnb hc hg hk
  rw[e]
  cases hp:Qdu x m' K with
  | true=>rfl
  | false=>
   exfalso
   have hle:=hmin.min K m' ⟨hg,h1,hp⟩
   have hbit:=(Qon hlim).1 ha
   unfold Qbe at hle
   rw[←Qev _ _ h16 h1,←Qev _ _ h16 hmin.bad.lt] at hle
   have hin:a∈setL (nLim x) m:=Qfj.2 ⟨hlim,hbit⟩
   have hl:=Qf4 (setL (nLim x) m') ((setL (nLim x) m).erase a) (Qjw _ _) fun i hi=>by
    obtain⟨i1,i2⟩:=Qfj.1 hi
    rw[h2 i i1] at i2
    simp only[Bool.and_eq_true,decide_eq_true_eq] at i2
    exact ((Qjw _ _).mem_erase_iff).2 ⟨i2.2,Qfj.2 ⟨i1,i2.1⟩⟩
   rw[length_erase_of_mem hin] at hl
   have:0<(setL (nLim x) m).length:=length_pos_of_mem hin
   omega
 ·obtain⟨c,rfl⟩:∃c,a=nLim x+c:=⟨a - nLim x,by omega⟩
  obtain⟨k0,hk0,hb0,hc0⟩:=Qfz.1 (QmA.1 ha)
  obtain⟨K',h1,h2⟩:=QiP (fun k=>K.testBit k&&decide (k≠k0)) x.Kinds.length
  have hg':Qh9 x K':=⟨h1,fun k hk hb=>by
   rw[h2 k hk] at hb
   simp only[Bool.and_eq_true] at hb
   exact hg.2 k hk hb.1⟩
  have e:QeF x (fun i=>js.contains i)=Qdu x m K':=by
   refine Qkm hc (fun i hi=>?_) (fun k hk=>?_)
   ·rw[Bool.eq_iff_iff,contains_iff_mem,hj,Qon hi]
    exact⟨fun h=>h.1,fun h=>⟨h,by omega⟩⟩
   ·have e:(fun j=>js.contains (nLim x+j)=true)=fun j=>j∈recS x K∧j≠c:=by
     funext j
     rw[contains_iff_mem,hj,QmA]
     exact propext ⟨fun h=>⟨h.1,fun e=>h.2 (by rw[e])⟩,fun h=>⟨h.1,fun e=>h.2 (by omega)⟩⟩
    rw[e,h2 k hk]
    refine⟨fun hb=>?_,fun hb hn=>?_⟩
    ·simp only[Bool.and_eq_true,decide_eq_true_eq] at hb
     refine (Qna hc hk (hg.2 k hk hb.1)).1.mono fun j hdk hj=>⟨Qfz.2 ⟨k,hk,hb.1,hj⟩,fun e=>?_⟩
     have h3:=(QhP hc hk0 hc0).2
     rw[←e,hdk] at h3
     exact hb.2 (by omega)
    ·by_cases hbk:K.testBit k=true
     ·rw[hbk,Bool.true_and] at hb
      have hkk:k=k0:=by simpa using hb
      subst hkk
      refine (Qna hc hk (hg.2 k hk hbk)).2 c hc0 (hn.mono fun j hdk ⟨hj1,hj2⟩=>⟨?_,hj2⟩)
      obtain⟨k',hk',_,hjc⟩:=Qfz.1 hj1
      have h3:=(QhP hc hk' hjc).2
      have:k'=k:=by omega
      rw[←this];exact hjc
     ·exact (Qnb hc hg hk).2 (by simpa using hbk) (hn.mono fun j _ h=>h.1)
  rw[e]
  cases hp:Qdu x m K' with
  | true=>rfl
  | false=>
   exfalso
   have hle:=hmin.min K' m ⟨hg',hmin.bad.lt,hp⟩
   unfold Qbe at hle
   have hin:c∈recS x K:=QmA.1 ha
   have hl:=Qf4 (recS x K') ((recS x K).erase c) (Qia hc _) fun i hi=>by
    obtain⟨k',hk',hb',hic⟩:=Qfz.1 hi
    rw[h2 k' hk'] at hb'
    simp only[Bool.and_eq_true,decide_eq_true_eq] at hb'
    refine ((Qia hc _).mem_erase_iff).2 ⟨fun e=>?_,Qfz.2 ⟨k',hk',hb'.1,hic⟩⟩
    have h3:=(QhP hc hk' hic).2
    have h4:=(QhP hc hk0 hc0).2
    rw[e,h4] at h3
    exact hb'.2 (by omega)
   rw[length_erase_of_mem hin] at hl
   have:0<(recS x K).length:=length_pos_of_mem hin
   omega
/-- Without any rule everything is kept. -/
theorem QpO {K m:Nat} (h16:nLim x≤16) (h:BadM x K m):0<Qbe x K m:=by
 rcases Nat.eq_zero_or_pos (Qbe x K m) with h0 | h0
 ·exfalso
  unfold Qbe at h0
  have h1:(setL (nLim x) m).length=0:=by rw[Qev _ _ h16 h.lt];omega
  have h2:recS x K=[]:=eq_nil_of_length_eq_zero (by omega)
  have hK:∀k,k<x.Kinds.length→K.testBit k=false:=fun k hk=>by
   cases hb:K.testBit k with
   | false=>rfl
   | true=>
    have hne:=h.good.2 k hk hb
    cases hcy:cyc x k with
    | nil=>exact absurd hcy hne
    | cons c l=>
     have:c∈recS x K:=Qfz.2 ⟨k,hk,hb,by rw[hcy];exact mem_cons_self ..⟩
     rw[h2] at this;cases this
  have hst:StOk x.Kinds.length (QeE x) (QfS x):=Qh8 hc
  have hp:Qdu x m K=true:=by
   unfold Qdu
   rw[Qh5 (Qmw hst.lim _) hst.refP]
   refine⟨replicate x.Kinds.length 0,by simp,fun z hz=>by rw[(mem_replicate.1 hz).2];omega,fun y hy=>?_,fun a b _ hp=>?_,fun k k0 k1 hE=>?_⟩
   ·obtain⟨i,hi,hb⟩:=Qrl.1 hy
    have:i∈setL (nLim x) m:=Qfj.2 ⟨(List.getElem?_eq_some_iff.1 hi).1,hb⟩
    rw[eq_nil_of_length_eq_zero h1] at this;cases this
   ·exfalso
    have:nth (replicate x.Kinds.length 0) a=0:=by
     unfold nth
     rw[getD_eq_getElem?_getD,getElem?_replicate]
     split<;>rfl
    omega
   ·unfold nth
    rw[getD_eq_getElem?_getD,getElem?_replicate]
    split<;>rfl
  rw[h.bad] at hp;cases hp
 ·exact h0
/-- If not everything can be kept, there is a pair that cannot be. -/
theorem QwH (h:Qc1 x=false):∃K m,BadM x K m∧Qbe x K m≤nLim x+(Qap x).length∨16<nLim x:=by
 by_cases h16:nLim x≤16
 ·obtain⟨K,k1,k2⟩:=QiP (fun k=>!(cyc x k).isEmpty) x.Kinds.length
  obtain⟨m,m1,m2⟩:=QiP (fun _=>true) (nLim x)
  refine⟨K,m,.inl ⟨⟨⟨k1,fun k hk hb e=>?_⟩,m1,?_⟩,?_⟩⟩
  ·rw[k2 k hk,e] at hb;cases hb
  ·rw[←h]
   unfold Qdu Qc1
   rw[QnN (p:=fun i=>m.testBit i) (q:=fun _=>true) (fun i hi=>m2 i hi)]
   refine Qla fun k hk=>?_
   rw[Int.toNat_natCast,k2 k hk];rfl
  ·unfold Qbe
   have h1:=Qy8 hc K
   rw[←Qev _ _ h16 m1]
   have h2:=length_filter_le (fun i=>m.testBit i) (range (nLim x))
   rw[length_range] at h2
   unfold setL;omega
 ·exact⟨0,0,.inr (by omega)⟩
end
end Go.Proofs.YtlajingmjmnfgaaGreatDoor
namespace Go.Proofs.YtlajingmjmnfgaaGreatDoor
open Go.Sim
def nAll (x:Qa):Nat:=nLim x+(Qap x).length
/-- What Why has found so far. -/
def Qhj (x:Qa) (K:Nat) (R:List Nat) (s:List Nat) (m:Nat):List Nat⊕List Nat:=
 if (!s.isEmpty&&decide (R.length+ones m≥s.length))||decide (R.length+ones m>nAll x) then .inr s
 else if Qdu x m K=true then .inl s else .inr (setL (nLim x) m++R.map fun c=>nLim x+c)
def goZ (f:List Nat→Nat→List Nat⊕List Nat):List Nat→List Nat→List Nat
 | [],s=>s
 | m::l,s=>match f s m with | .inl s'=>goZ f l s' | .inr s'=>s'
theorem QpP {x:Qa} (h16:nLim x≤16) {K:Nat} (hg:Qh9 x K):∀(l:List Nat),l.Pairwise (fun a b=>ones a≤ones b)→(∀m∈l,m<2 ^ nLim x)→∀s:List Nat,
  (goZ (Qhj x K (recS x K)) l s=s∧∀m∈l,Qdu x m K=false→Qbe x K m≤nAll x→s≠[]∧s.length≤Qbe x K m)∨
  (∃m∈l,goZ (Qhj x K (recS x K)) l s=wOf x K m∧Qdu x m K=false∧Qbe x K m≤nAll x∧(s=[]∨Qbe x K m<s.length)∧∀m'∈l,Qdu x m' K=false→Qbe x K m≤Qbe x K m')
 | [],_,_,s=>.inl ⟨rfl,fun m hm=>by cases hm⟩
 | m::l,hp,hl,s=>by
  obtain⟨hp1,hp2⟩:=pairwise_cons.1 hp
  have hsz:∀m'∈m::l,ones m≤ones m':=fun m' hm'=>by
   rcases mem_cons.1 hm' with rfl | hm'
   ·exact Nat.le_refl _
   ·exact hp1 m' hm'
  unfold goZ Qhj
  by_cases hstop:((!s.isEmpty&&decide ((recS x K).length+ones m≥s.length))||decide ((recS x K).length+ones m>nAll x))=true
  ·rw[if_pos hstop]
   refine .inl ⟨rfl,fun m' hm' _ hle=>?_⟩
   have:=hsz m' hm'
   unfold Qbe at hle ⊢
   simp only[Bool.or_eq_true,Bool.and_eq_true,decide_eq_true_eq,Bool.not_eq_true',isEmpty_eq_false_iff] at hstop
   rcases hstop with⟨h1,h2⟩ | h1
   ·exact⟨h1,by omega⟩
   ·omega
  ·rw[if_neg hstop]
   simp only[Bool.or_eq_true,Bool.and_eq_true,decide_eq_true_eq,Bool.not_eq_true',isEmpty_eq_false_iff,not_or,not_and] at hstop
   cases hpm:Qdu x m K with
   | true=>
    rw[if_pos rfl]
    dsimp only
    rcases QpP h16 hg l hp2 (fun m hm=>hl m (mem_cons_of_mem _ hm)) s with⟨h1,h2⟩ | ⟨m1,hm1,h1,h2,h3,h4,h5⟩
    ·refine .inl ⟨h1,fun m' hm' hb hle=>?_⟩
     rcases mem_cons.1 hm' with rfl | hm'
     ·rw[hpm] at hb;cases hb
     ·exact h2 m' hm' hb hle
    ·refine .inr ⟨m1,mem_cons_of_mem _ hm1,h1,h2,h3,h4,fun m' hm' hb=>?_⟩
     rcases mem_cons.1 hm' with rfl | hm'
     ·rw[hpm] at hb;cases hb
     ·exact h5 m' hm' hb
   | false=>
    rw[if_neg (by simp)]
    refine .inr ⟨m,mem_cons_self ..,rfl,hpm,?_,?_,fun m' hm' _=>?_⟩
    ·unfold Qbe;omega
    ·by_cases hs:s=[]
     ·exact .inl hs
     ·have:=hstop.1 hs
      refine .inr ?_
      unfold Qbe;omega
    ·have:=hsz m' hm'
     unfold Qbe;omega
/-- The rules of some kinds as the program takes them. -/
def recP (x:Qa) (K:Nat):List Nat:=(range x.Kinds.length).foldl (fun acc k=>if K.testBit k=true then (if (cyc x k).isEmpty then replicate (nAll x+1) 0 else acc++cyc x k) else acc) []
theorem QnP {x:Qa} {K:Nat} (h:∀k,k<x.Kinds.length→K.testBit k=true→cyc x k≠[]):recP x K=recS x K:=by
 have key:∀n,n≤x.Kinds.length→(range n).foldl (fun acc k=>if K.testBit k=true then (if (cyc x k).isEmpty then replicate (nAll x+1) 0 else acc++cyc x k) else acc) []=(range n).flatMap fun k=>if K.testBit k=true then cyc x k else []:=by
  intro n
  induction n with
  | zero=>intro _;rfl
  | succ n ih=>
   intro hn
   rw[range_succ,foldl_append,flatMap_append,ih (by omega),flatMap_singleton]
   simp only[foldl_cons,foldl_nil]
   by_cases hb:K.testBit n=true
   ·rw[if_pos hb,if_pos hb]
    have:=h n (by omega) hb
    rw[if_neg (by simpa using this)]
   ·rw[if_neg hb,if_neg hb,append_nil]
 exact key _ (Nat.le_refl _)
theorem QpQ {x:Qa} {K k0:Nat} (h0:k0<x.Kinds.length) (hb:K.testBit k0=true) (he:cyc x k0=[]):nAll x<(recP x K).length:=by
 have key:∀n,k0<n→nAll x<((range n).foldl (fun acc k=>if K.testBit k=true then (if (cyc x k).isEmpty then replicate (nAll x+1) 0 else acc++cyc x k) else acc) []).length:=by
  intro n
  induction n with
  | zero=>intro h;omega
  | succ n ih=>
   intro hn
   rw[range_succ,foldl_append]
   simp only[foldl_cons,foldl_nil]
   by_cases hk:n=k0
   ·subst hk
    rw[if_pos hb,he,if_pos (show ([]:List Nat).isEmpty=true from rfl),length_replicate];omega
   ·have:=ih (by omega)
    split
    ·split
     ·rw[length_replicate];omega
     ·rw[length_append];omega
    ·exact this
 exact key _ h0
theorem QwI {x:Qa} (hc:QP x=[]) (K:Nat):(recP x K).length≤nAll x+1+200:=by
 have hn:=(Qal hc).kinds
 have key:∀n,n≤x.Kinds.length→((range n).foldl (fun acc k=>if K.testBit k=true then (if (cyc x k).isEmpty then replicate (nAll x+1) 0 else acc++cyc x k) else acc) []).length≤nAll x+1+n * 12:=by
  intro n
  induction n with
  | zero=>intro _;simp
  | succ n ih=>
   intro hn
   have:=ih (by omega)
   rw[range_succ,foldl_append]
   simp only[foldl_cons,foldl_nil]
   split
   ·split
    ·rw[length_replicate];omega
    ·have h12:(cyc x n).length≤12:=by unfold cyc;rw[Qm9];exact (Qmx hc (by omega) (by omega) _).1
     rw[length_append];omega
   ·omega
 have:=key _ (Nat.le_refl _)
 unfold recP;omega
/-! All kinds -/
def goK (x:Qa) (s:List Nat) (K:Nat):List Nat:=goZ (Qhj x K (recP x K)) (Qc0 (nLim x)) s
theorem Qza {x:Qa} {K:Nat} (hg:¬Qh9 x K) (hlt:K<2 ^ x.Kinds.length) (s:List Nat):goK x s K=s:=by
 have:∃k,k<x.Kinds.length∧K.testBit k=true∧cyc x k=[]:=Classical.byContradiction fun hn=>hg ⟨hlt,fun k hk hb he=>hn ⟨k,hk,hb,he⟩⟩
 obtain⟨k,hk,hb,he⟩:=this
 have hl:=QpQ hk hb he
 unfold goK
 cases hs:Qc0 (nLim x) with
 | nil=>rfl
 | cons m l=>
  unfold goZ Qhj
  rw[if_pos (by simp;omega)]
/-- The best pair so far. -/
structure Qhk (x:Qa) (P:List Nat) (s:List Nat):Prop where
 none:s=[]→∀K∈P,∀m,BadM x K m→nAll x<Qbe x K m
 some:s≠[]→∃K m,BadM x K m∧s=wOf x K m∧Qbe x K m≤nAll x∧∀K'∈P,∀m',BadM x K' m'→Qbe x K m≤Qbe x K' m'
theorem QpR {x:Qa} (hc:QP x=[]) (h16:nLim x≤16) {P s:List Nat} (h:Qhk x P s) {K:Nat} (hK:K<2 ^ x.Kinds.length):Qhk x (P++[K]) (goK x s K):=by
 by_cases hg:Qh9 x K
 ·have hl:∀m∈Qc0 (nLim x),m<2 ^ nLim x:=fun m hm=>(Qel h16).1 hm
  have hgo:goK x s K=goZ (Qhj x K (recS x K)) (Qc0 (nLim x)) s:=by unfold goK;rw[QnP hg.2]
  rw[hgo]
  rcases QpP h16 hg (Qc0 (nLim x)) (Qpd _) hl s with⟨h1,h2⟩ | ⟨m,hm,h1,h2,h3,h4,h5⟩
  ·rw[h1]
   refine⟨fun hs K' hK' m hb=>?_,fun hs=>?_⟩
   ·rcases mem_append.1 hK' with hK' | hK'
    ·exact h.none hs K' hK' m hb
    ·obtain rfl:=mem_singleton.1 hK'
     rcases Nat.lt_or_ge (nAll x) (Qbe x K' m) with hlt | hle
     ·exact hlt
     ·exact absurd hs (h2 m ((Qel h16).2 hb.lt) hb.bad hle).1
   ·obtain⟨K1,m1,b1,b2,b3,b4⟩:=h.some hs
    refine⟨K1,m1,b1,b2,b3,fun K' hK' m' hb=>?_⟩
    rcases mem_append.1 hK' with hK' | hK'
    ·exact b4 K' hK' m' hb
    ·obtain rfl:=mem_singleton.1 hK'
     rcases Nat.lt_or_ge (nAll x) (Qbe x K' m') with hlt | hle
     ·omega
     ·have:=(h2 m' ((Qel h16).2 hb.lt) hb.bad hle).2
      rw[b2,QkS h16 b1.lt] at this
      exact this
  ·have hbad:BadM x K m:=⟨hg,hl m hm,h2⟩
   have hlen:=QkS (x:=x) (K:=K) h16 hbad.lt
   have hpos:=QpO hc h16 hbad
   rw[h1]
   refine⟨fun hs=>?_,fun hs=>⟨K,m,hbad,rfl,h3,fun K' hK' m' hb=>?_⟩⟩
   ·rw[hs] at hlen;simp at hlen;omega
   ·rcases mem_append.1 hK' with hK' | hK'
    ·rcases h4 with h4 | h4
     ·have:=h.none h4 K' hK' m' hb;omega
     ·obtain⟨K1,m1,b1,b2,b3,b4⟩:=h.some (fun e=>by rw[e] at h4;simp at h4)
      have:=b4 K' hK' m' hb
      rw[b2,QkS h16 b1.lt] at h4
      omega
    ·obtain rfl:=mem_singleton.1 hK'
     exact h5 m' ((Qel h16).2 hb.lt) hb.bad
 ·rw[Qza hg hK]
  refine⟨fun hs K' hK' m hb=>?_,fun hs=>?_⟩
  ·rcases mem_append.1 hK' with hK' | hK'
   ·exact h.none hs K' hK' m hb
   ·obtain rfl:=mem_singleton.1 hK'
    exact absurd hb.good hg
  ·obtain⟨K1,m1,b1,b2,b3,b4⟩:=h.some hs
   refine⟨K1,m1,b1,b2,b3,fun K' hK' m' hb=>?_⟩
   rcases mem_append.1 hK' with hK' | hK'
   ·exact b4 K' hK' m' hb
   ·obtain rfl:=mem_singleton.1 hK'
    exact absurd hb.good hg
def Qdv (x:Qa):List Nat:=(Qc0 x.Kinds.length).foldl (goK x) []
theorem QnQ {x:Qa} (hc:QP x=[]) (h16:nLim x≤16):∀(l P s:List Nat),(∀K∈l,K<2 ^ x.Kinds.length)→Qhk x P s→Qhk x (P++l) (l.foldl (goK x) s)
 | [],P,s,_,h=>by rw[append_nil];exact h
 | K::l,P,s,hl,h=>by
  have:=QnQ hc h16 l (P++[K]) (goK x s K) (fun K hK=>hl K (mem_cons_of_mem _ hK)) (QpR hc h16 h (hl K (mem_cons_self ..)))
  rw[append_assoc] at this
  exact this
theorem QpS {x:Qa} (hc:QP x=[]) (h16:nLim x≤16) (hb:Qc1 x=false):∃K m,MinM x K m∧Qdv x=wOf x K m∧Qbe x K m≤nAll x:=by
 have hk6:=(Qal hc).kinds
 have hB:Qhk x (Qc0 x.Kinds.length) (Qdv x):=by
  have:=QnQ hc h16 (Qc0 x.Kinds.length) [] [] (fun K hK=>(Qel (by omega)).1 hK) ⟨fun _ K hK=>(by cases hK),fun h=>absurd rfl h⟩
  rwa [nil_append] at this
 have hall:∀K m,BadM x K m→K∈Qc0 x.Kinds.length:=fun K m h=>(Qel (by omega)).2 h.good.1
 have hne:Qdv x≠[]:=fun e=>by
  obtain⟨K,m,h | h⟩:=QwH hc hb
  ·have:=hB.none e K (hall K m h.1) m h.1
   have:=h.2
   unfold nAll at *;omega
  ·omega
 obtain⟨K,m,h1,h2,h3,h4⟩:=hB.some hne
 exact⟨K,m,⟨h1,fun K' m' hb=>h4 K' (hall K' m' hb) m' hb⟩,h2,h3⟩
theorem Qhk.len {x:Qa} (h16:nLim x≤16) {P s:List Nat} (h:Qhk x P s):s.length≤nAll x:=by
 by_cases e:s=[]
 ·rw[e];simp
 ·obtain⟨K,m,h1,h2,h3,_⟩:=h.some e
  rw[h2,QkS h16 h1.lt];exact h3
/-! The program -/
theorem Qhu {x:Qa} (hc:QP x=[]):nAll x≤300:=by
 have hv:=Qal hc
 have h1:=QgS hv
 have h2:=Qls hv
 rw[QnO] at h2
 unfold nAll;omega
theorem QhQ (s:List Nat):(ints s).isEmpty=s.isEmpty:=by unfold ints;cases s<;>rfl
theorem QbE (s:List Nat):(ints s).length=s.length:=by unfold ints;simp
theorem QpT (a b:List Nat):ints (a++b)=ints a++ints b:=by unfold ints;simp
def cycs (x:Qa):List (List Int):=(range x.Kinds.length).map fun k=>ints (cyc x k)
theorem QpU {x:Qa} {k:Nat} (hk:k<x.Kinds.length):idx (cycs x) (k:Int)=some (ints (cyc x k)):=by
 rw[QY (by unfold cycs;simpa using hk)]
 unfold cycs;simp
theorem Qkn {n:Nat} (h:n≤16) {m:Nat} (hm:m<2 ^ n):m<2 ^ 64:=Nat.lt_of_lt_of_le hm (Nat.pow_le_pow_right (by omega) (by omega))
theorem QwJ {x:Qa} (hc:QP x=[]) {K:Nat} (hK:K<2 ^ x.Kinds.length) {names:List Str} (hn:names.length=nAll x):
  (Qo (fun (s1114:Int×List Int)=>((if (decide (s1114.1<((x).Kinds.length:Int)))=true then (nn s1114.1).bind fun _=>((if ((iand .u64 (ishr .u64 (K:Int) s1114.1) (1:Int))==(1:Int))=true then (idx (cycs x) s1114.1).bind fun t73=>(rm (s1114.2.length+t73.length)).bind fun _=>(idx (cycs x) s1114.1).bind fun t78=>((if (t78.isEmpty)=true then (mk (i64.wrap ((names.length:Int)+(1:Int))) (0:Int)).bind fun t84=>(some t84) else (some (s1114.2++t73)))).bind fun (p1631:List Int)=>(some p1631) else (some s1114.2))).bind fun (p1618:List Int)=>(some (.inl ((i64.wrap (s1114.1+(1:Int))),p1618))) else (some (.inr s1114.2))):Option ((Int×List Int)⊕((List Int))))) ((0:Int),([]:List Int)))=some (ints (recP x K)):=by
 have hk6:=(Qal hc).kinds
 have h300:=Qhu hc
 let g:List Nat→Nat→List Nat:=fun acc k=>if K.testBit k=true then (if (cyc x k).isEmpty then replicate (nAll x+1) 0 else acc++cyc x k) else acc
 have hl:∀n,n≤x.Kinds.length→((range n).foldl g []).length≤301+n * 12:=by
  intro n
  induction n with
  | zero=>intro _;simp
  | succ n ih=>
   intro hn
   have:=ih (by omega)
   rw[range_succ,foldl_append]
   simp only[foldl_cons,foldl_nil]
   show (if K.testBit n=true then (if (cyc x n).isEmpty then replicate (nAll x+1) 0 else (range n).foldl g []++cyc x n) else (range n).foldl g []).length≤_
   split
   ·split
    ·rw[length_replicate];omega
    ·have h12:(cyc x n).length≤12:=by unfold cyc;rw[Qm9];exact (Qmx hc (by omega) (by omega) _).1
     rw[length_append];omega
   ·omega
 refine (Qca x.Kinds.length (fun n=>((n:Int),ints ((range n).foldl g []))) (ints (recP x K)) (fun k hk=>?_) ?_)
 ·have hlk:=hl k (by omega)
  dsimp only
  rw[if_pos (by simpa using hk),show nn (k:Int)=some () by unfold nn;rw[if_pos (by omega)]]
  simp only[Option.bind_some]
  rw[Qmi (Qkn (by omega) hK) (by omega),QK hk (by omega),range_succ,foldl_append]
  simp only[foldl_cons,foldl_nil]
  show _=some (Sum.inl (_,ints (if K.testBit k=true then (if (cyc x k).isEmpty then replicate (nAll x+1) 0 else (range k).foldl g []++cyc x k) else (range k).foldl g [])))
  cases hb:K.testBit k with
  | false=>rfl
  | true=>
   have h12:(cyc x k).length≤12:=by unfold cyc;rw[Qm9];exact (Qmx hc (by omega) (by omega) _).1
   rw[if_pos rfl,if_pos rfl,QpU hk]
   simp only[Option.bind_some]
   rw[Qcj (by rw[QbE,QbE];omega)]
   simp only[Option.bind_some]
   rw[QhQ]
   cases he:(cyc x k).isEmpty with
   | false=>simp[QpT]
   | true=>
    rw[if_pos rfl,if_pos rfl,hn,w64 (by omega) (by omega),show ((nAll x:Nat):Int)+1=((nAll x+1:Nat):Int) by omega,Qme _ _ (by omega)]
    simp only[Option.bind_some]
    unfold ints
    rw[map_replicate];rfl
 ·dsimp only
  rw[if_neg (by simp)];rfl
theorem Qzb {x:Qa} (h16:nLim x≤16) {m:Nat} (hm:m<2 ^ nLim x):
  (Qo (fun (s1551:Int×List Int)=>((if (decide (s1551.1<((Qa4 x).limits.length:Int)))=true then (nn s1551.1).bind fun _=>((if ((iand .u64 (ishr .u64 (m:Int) s1551.1) (1:Int))==(1:Int))=true then (rm (s1551.2.length+[s1551.1].length)).bind fun _=>(some (s1551.2++[s1551.1])) else (some s1551.2))).bind fun (p1605:List Int)=>(some (.inl ((i64.wrap (s1551.1+(1:Int))),p1605))) else (some (.inr s1551.2))):Option ((Int×List Int)⊕((List Int))))) ((0:Int),([]:List Int)))=some (ints (setL (nLim x) m)):=by
 have hlen:(Qa4 x).limits.length=nLim x:=rfl
 rw[hlen]
 refine (Qy6 (range (nLim x)) (fun i=>m.testBit i) (fun (i:Nat)=>(i:Int)) (fun k hk acc ha=>?_) (fun acc=>by rw[length_range];dsimp only;rw[if_neg (by simp)])).trans rfl
 rw[length_range] at hk
 dsimp only
 rw[if_pos (by simpa using hk),show nn (k:Int)=some () by unfold nn;rw[if_pos (by omega)]]
 simp only[Option.bind_some]
 rw[Qmi (Qkn h16 hm) (by omega),QK hk (by omega),getElem_range]
 cases m.testBit k with
 | false=>rfl
 | true=>rw[if_pos rfl,if_pos rfl,Qcj (by simp;omega)];rfl
end Go.Proofs.YtlajingmjmnfgaaGreatDoor

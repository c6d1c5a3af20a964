/- The generator gives schemas without problems. No condition. -/
import Derived.Test.YtlajingmjmnfgaaGreatDoorCoN
import Derived.Test.YtlajingmjmnfgaaGreatDoorCtI
set_option linter.all false
open List Go.IntKind
namespace Go.Proofs.YtlajingmjmnfgaaGreatDoor
open Go.Sim
theorem Qlb {α:Type} {s:List α} {f:α→Str} (hn:(s.map f).Nodup) {k:Nat} {a:α} (h:s[k]?=some a):Qau s (fun b=>f b==f a)=(k:Int):=by
 unfold Qau
 obtain⟨hk,e⟩:=List.getElem?_eq_some_iff.1 h
 have:s.findIdx? (fun b=>f b==f a)=some k:=by
  rw[findIdx?_eq_some_iff_getElem]
  refine⟨hk,by rw[e];simp,fun j hj=>?_⟩
  have:=pairwise_iff_getElem.1 hn j k (by simp;omega) (by simpa using hk) hj
  rw[getElem_map,getElem_map,e] at this
  simpa using this
 rw[this]
section
variable {x:Qa}
theorem QdO (hC:Qbx (x.Kinds.map ks)) {k:Nat} {t:Ks} (h:(x.Kinds.map ks)[k]?=some t):∃q,x.Kinds[k]?=some q∧ks q=t∧kindIx x t.1=(k:Int):=by
 rw[getElem?_map] at h
 obtain⟨q,hq,rfl⟩:=Option.map_eq_some_iff.1 h
 have e:(x.Kinds.map ks).map Prod.fst=x.Kinds.map Qe.Name:=by rw[map_map];rfl
 have hn:(x.Kinds.map Qe.Name).Nodup:=by
  rw[←e,hC.names.2]
  exact List.Nodup.sublist (take_sublist _ _) (by decide)
 exact⟨q,hq,rfl,Qlb hn hq⟩
theorem Qcy {q:Qe} (hn:((ks q).2.map Prod.fst).Nodup) {j:Nat} {g:Sg} (h:(ks q).2[j]?=some g):∃f,q.Fields[j]?=some f∧sg f=g∧fieldIx q g.1=(j:Int):=by
 unfold ks at h hn
 dsimp only at h hn
 rw[getElem?_map] at h
 obtain⟨f,hf,rfl⟩:=Option.map_eq_some_iff.1 h
 rw[map_map] at hn
 exact⟨f,hf,rfl,Qlb (f:=Qb.Name) hn hf⟩
theorem Qf6 {k j:Nat} {q:Qe} {f:Qb} (hq:x.Kinds[k]?=some q) (hf:q.Fields[j]?=some f):field? x (k:Int) (j:Int)=some f:=
 Qlo (by omega) (by omega) (by rw[QaU];exact hq) (by rw[QaU];exact hf)
theorem QhR (_:Qbx (x.Kinds.map ks)) {k:Nat} {q:Qe} (hq:x.Kinds[k]?=some q):(x.Kinds.map ks)[k]?=some (ks q):=by rw[getElem?_map,hq];rfl
theorem Qsw (hC:Qbx (x.Kinds.map ks)) {k j to:Nat} {q:Qe} {f:Qb} {t:Ks} (hq:x.Kinds[k]?=some q) (hf:q.Fields[j]?=some f) (hk:f.Kind=7∨f.Kind=8) (hu:f.Up=nOf)
  (h1:(ks q).2[1]?=some (sOf t.1)) (ht:(x.Kinds.map ks)[to]?=some t) (hto:to<k):upIx x (k:Int) (j:Int)=(to:Int):=by
 obtain⟨hn,r,hr,_⟩:=hC.fields _ (mem_of_getElem? (QhR hC hq))
 obtain⟨g,hg,eg,e1⟩:=Qcy hn h1
 obtain⟨qt,hqt,rfl,e2⟩:=QdO hC ht
 have hs:(ks q).2[j]?=some (sg f):=by unfold ks;dsimp only;rw[getElem?_map,hf];rfl
 have hj:1<j:=by
  rcases Nat.lt_or_ge 1 j with h | h
  ·exact h
  ·have:j=0∨j=1:=by omega
   rcases this with rfl | rfl
   ·rw[hr] at hs
    have e0:sId=sg f:=Option.some.inj hs
    have:sId.2.1=f.Kind:=by rw[e0];rfl
    have h0:sId.2.1=0:=rfl
    omega
   ·rw[h1] at hs
    have e0:sOf (ks qt).1=sg f:=Option.some.inj hs
    have:(sOf (ks qt).1).2.1=f.Kind:=by rw[e0];rfl
    have h0:(sOf (ks qt).1).2.1=1:=rfl
    omega
 have gk:g.Kind=1:=congrArg (fun s:Sg=>s.2.1) eg
 have go:g.Of=(ks qt).1:=congrArg (fun s:Sg=>s.2.2.1) eg
 have e1':fieldIx q nOf=1:=e1
 unfold upIx
 rw[Qf6 hq hf]
 dsimp only
 rw[if_pos hk,QaU,hq]
 dsimp only
 have hg1:field? x (k:Int) 1=some g:=Qf6 (j:=1) hq hg
 rw[hu,e1',if_pos (by omega),hg1]
 dsimp only
 rw[if_pos gk]
 unfold Qgc
 rw[go,e2,if_pos (by omega)]
theorem Qu1 {k j to i:Nat} {qt:Qe} {f g:Qb} (hu:upIx x (k:Int) (j:Int)=(to:Int)) (hqt:x.Kinds[to]?=some qt) (hg:qt.Fields[i]?=some g) (hi:fieldIx qt f.Of=(i:Int)):topS x (k:Int) (j:Int) f=(g,true):=by
 unfold topS
 rw[hu,if_neg (by omega),QaU,hqt]
 dsimp only
 rw[hi,Qf6 hqt hg]
theorem Qp1 (p:Nat→Bool) (a:Nat):∀n,a<n→p a=true→(∀i,i<n→p i=true→i=a)→((range n).filter p).length=1
 | 0,h,_,_=>by omega
 | n+1,h,ha,hu=>by
  rw[range_succ,filter_append,length_append]
  by_cases e:a=n
  ·subst e
   have h0:(range a).filter p=[]:=by
    rw[filter_eq_nil_iff]
    intro i hi hp
    have hi':=mem_range.1 hi
    have:=hu i (by omega) hp
    omega
   rw[h0]
   simp[ha]
  ·have h1:=Qp1 p a n (by omega) ha fun i hi hp=>hu i (by omega) hp
   have h2:p n=false:=by
    cases hp:p n with
    | false=>rfl
    | true=>exact absurd (hu n (by omega) hp).symm e
   rw[h1]
   simp[h2]
theorem fst0 {a:Bool} {c:Int} {r:List QV} (ha:a=false) (hr:QaJ r=0):QaJ (⟨a,c⟩::r)=0:=by
 subst ha;exact hr
theorem Qzh (hC:Qbx (x.Kinds.map ks)) {k:Nat} {q:Qe} (hq:x.Kinds[k]?=some q) {i j:Nat} {f g:Qb} (hi:q.Fields[i]?=some f) (hj:q.Fields[j]?=some g) (e:f.Name=g.Name):i=j:=by
 obtain⟨hn,_⟩:=hC.fields _ (mem_of_getElem? (QhR hC hq))
 have s1:(ks q).2[i]?=some (sg f):=by unfold ks;dsimp only;rw[getElem?_map,hi];rfl
 have s2:(ks q).2[j]?=some (sg g):=by unfold ks;dsimp only;rw[getElem?_map,hj];rfl
 obtain⟨_,_,_,e1⟩:=Qcy hn s1
 obtain⟨_,_,_,e2⟩:=Qcy hn s2
 have:fieldIx q (sg f).1=fieldIx q (sg g).1:=congrArg _ e
 omega
theorem Qsx (hC:Qbx (x.Kinds.map ks)) (hL:∃L,x.Lives=[L]∧L.Name=QmD) {k j:Nat} {q:Qe} {f:Qb} (hq:x.Kinds[k]?=some q) (hf:q.Fields[j]?=some f):Qgf x q (k:Int) (j:Int) f=0:=by
 have hsg:=QhR hC hq
 obtain⟨hn,hd⟩:=hC.fields _ (mem_of_getElem? hsg)
 have inv:=hC.inv k _ hsg
 have hs:(ks q).2[j]?=some (sg f):=by unfold ks;dsimp only;rw[getElem?_map,hf];rfl
 have hm:=mem_of_getElem? hs
 have fk:(sg f).2.1=f.Kind:=rfl
 unfold Qgf
 by_cases c0:f.Kind=0
 ·rw[if_pos c0]
  refine fst0 ?_ rfl
  obtain⟨r,hr,hr0⟩:=hd
  match j,hs with
  | 0,_=>rfl
  | j+1,hs=>
   rw[hr,getElem?_cons_succ] at hs
   exact absurd c0 (hr0 _ (mem_of_getElem? hs))
 rw[if_neg c0]
 by_cases c1:f.Kind=1
 ·rw[if_pos c1]
  refine fst0 ?_ rfl
  obtain⟨t,ht,et⟩:=hC.refs k _ hsg (sg f) hm c1
  have hkl:=(List.getElem?_eq_some_iff.1 hsg).1
  have htl:t<(x.Kinds.map ks).length:=by omega
  have ht2:=getElem?_eq_getElem htl
  have e3:=hC.name_at ht2
  rw[et] at e3
  obtain⟨_,_,_,e2⟩:=QdO hC ht2
  rw[←Option.some.inj e3] at e2
  have e4:kindIx x f.Of=(t:Int):=e2
  have eu:upIx x (k:Int) (j:Int)=(t:Int):=by
   unfold upIx
   rw[Qf6 hq hf]
   dsimp only
   rw[if_neg (by omega),if_pos c1]
   unfold Qgc
   rw[e4,if_pos (by omega)]
  rw[eu]
  simp
 rw[if_neg c1]
 by_cases c4:f.Kind=4
 ·rw[if_pos c4]
  refine fst0 ?_ rfl
  rcases inv.piece.days j _ hs c4 with h | ⟨i,g,hi,hg,e1,e2⟩
  ·have h':f.Of=[]:=h
   rw[h'];rfl
  ·obtain⟨g',hg',rfl,e3⟩:=Qcy hn hg
   have e4:fieldIx q f.Of=(i:Int):=by
    have:(sg f).2.2.1=f.Of:=rfl
    rw[←this,←e1];exact e3
   have gk:g'.Kind=4:=e2
   rw[e4,Qf6 hq hg']
   dsimp only
   rw[gk]
   rw[show decide ((i:Int)<0)=false by simp,show decide ((i:Int)≥(j:Int))=false by simp;omega]
   simp
 rw[if_neg c4]
 by_cases c5:f.Kind=5
 ·rw[if_pos c5]
  refine fst0 ?_ rfl
  obtain⟨L,hL,hLn⟩:=hL
  have h:=inv.piece.fok _ hm
  unfold fokB at h
  simp only[Bool.and_eq_true] at h
  have h2:=h.2.1
  rw[fk,c5] at h2
  have h3:f.Of=QmD:=by simpa[sg] using h2
  rw[hL,h3]
  simp[hLn]
 rw[if_neg c5]
 by_cases c6:f.Kind=6
 ·rw[if_pos c6]
  obtain⟨o,p,ef,ho,hp,hpart,h1⟩:=inv.k6 _ hm c6
  obtain⟨qo,hqo,rfl,eo⟩:=QdO hC hp
  have efo:f.Of=(ks qo).1:=congrArg (fun s:Sg=>s.2.2.1) ef
  have efn:f.Name=QfO:=congrArg (fun s:Sg=>s.1) ef
  have es:QkI x (k:Int) f=((o:Int),shl x (o:Int) (k:Int) f.Name):=by
   unfold QkI
   rw[efo,eo,if_neg (by omega)]
  have hno:=(hC.fields _ (mem_of_getElem? hp)).1
  obtain⟨jp,hjp⟩:=mem_iff_getElem?.1 hpart
  obtain⟨g,hg,eg,_⟩:=Qcy hno hjp
  have gk:g.Kind=7:=congrArg (fun s:Sg=>s.2.1) eg
  have go:g.Of=QfO:=congrArg (fun s:Sg=>s.2.2.1) eg
  have gu:g.Up=nOf:=congrArg (fun s:Sg=>s.2.2.2) eg
  have gn:g.Name=Qgj.1:=congrArg (fun s:Sg=>s.1) eg
  have hl:(shl x (o:Int) (k:Int) f.Name).length=1:=by
   unfold shl
   rw[QaU,hqo]
   dsimp only
   rw[length_map]
   refine Qp1 _ jp _ (List.getElem?_eq_some_iff.1 hg).1 ?_ fun i hi hsh=>?_
   ·unfold QhG
    rw[hg]
    dsimp only
    rw[gk,go,efn,Qsw hC hqo hg (.inl gk) gu h1 hsg ho]
    simp
   ·unfold QhG at hsh
    rw[getElem?_eq_getElem hi] at hsh
    simp only[Bool.and_eq_true,beq_iff_eq] at hsh
    have hi':=getElem?_eq_getElem hi
    have hs2:(ks qo).2[i]?=some (sg qo.Fields[i]):=by unfold ks;dsimp only;rw[getElem?_map,hi'];rfl
    obtain⟨e7,_⟩:=(hC.inv o _ hp).k7 _ (mem_of_getElem? hs2) hsh.1.1
    refine Qzh hC hqo hi' hg ?_
    rw[gn]
    exact congrArg (fun s:Sg=>s.1) e7
  rw[es]
  refine fst0 (by simp) (fst0 ?_ rfl)
  dsimp only
  rw[hl];rfl
 rw[if_neg c6]
 by_cases c7:f.Kind=7
 ·rw[if_pos c7]
  obtain⟨ef,to,t,hto,ht,h1,hT⟩:=inv.k7 _ hm c7
  have efo:f.Of=QfO:=congrArg (fun s:Sg=>s.2.2.1) ef
  have efu:f.Up=nOf:=congrArg (fun s:Sg=>s.2.2.2) ef
  have hu:=Qsw hC hq hf (.inl c7) efu h1 ht hto
  obtain⟨qt,hqt,rfl,_⟩:=QdO hC ht
  have hnt:=(hC.fields _ (mem_of_getElem? ht)).1
  obtain⟨i,hi⟩:=mem_iff_getElem?.1 hT
  obtain⟨g,hg,eg,e3⟩:=Qcy hnt hi
  have gk:g.Kind=6:=congrArg (fun s:Sg=>s.2.1) eg
  have go:g.Of=(ks q).1:=congrArg (fun s:Sg=>s.2.2.1) eg
  have ht:=Qu1 (f:=f) hu hqt hg (by rw[efo];exact e3)
  obtain⟨_,_,_,ek⟩:=QdO hC hsg
  rw[ht,hu]
  refine fst0 (by simp) (fst0 ?_ rfl)
  dsimp only
  rw[gk,go,ek]
  simp
 rw[if_neg c7]
 by_cases c8:f.Kind=8
 ·rw[if_pos c8]
  obtain⟨n,to,t,ef,hto,ht,h1,h,hh,hn8,hr⟩:=inv.k8 _ hm c8
  have efo:f.Of=n:=congrArg (fun s:Sg=>s.2.2.1) ef
  have efu:f.Up=nOf:=congrArg (fun s:Sg=>s.2.2.2) ef
  have hu:=Qsw hC hq hf (.inr c8) efu h1 ht hto
  have invt:=hC.inv to _ ht
  obtain⟨qt,hqt,rfl,_⟩:=QdO hC ht
  have hnt:=(hC.fields _ (mem_of_getElem? ht)).1
  obtain⟨i,hi⟩:=mem_iff_getElem?.1 hh
  obtain⟨g,hg,eg,e3⟩:=Qcy hnt hi
  have ht:=Qu1 (f:=f) hu hqt hg (by rw[efo,←hn8];exact e3)
  rw[ht,hu]
  refine fst0 (by simp) (fst0 ?_ rfl)
  have hf8:=invt.piece.fok _ hh
  unfold fokB at hf8
  simp only[Bool.and_eq_true,decide_eq_true_eq] at hf8
  obtain⟨r1,r2,r3,r4⟩:=hr
  have gk:g.Kind=h.2.1:=congrArg (fun s:Sg=>s.2.1) eg
  have:g.Kind=2∨g.Kind=3∨g.Kind=4∨g.Kind=5∨g.Kind=8:=by omega
  unfold Quo
  rcases this with e | e | e | e | e<;>rw[e]<;>rfl
 rw[if_neg c8]
theorem Qgl (hC:Qbx (x.Kinds.map ks)) {k:Nat} {q:Qe} (hq:x.Kinds[k]?=some q) {n:Str} (h:∃g∈(ks q).2,g.1=n) (hn:(n=nLow∨n=Qjx)∨n=QkT):Qez x (k:Int) n=false∧Qeh x (k:Int) n=false:=by
 have hsg:=QhR hC hq
 obtain⟨hnd,_⟩:=hC.fields _ (mem_of_getElem? hsg)
 obtain⟨g,hg,rfl⟩:=h
 have hf:=(hC.inv k _ hsg).piece.fok _ hg
 obtain⟨i,hi⟩:=mem_iff_getElem?.1 hg
 obtain⟨f,hf',eg,e3⟩:=Qcy hnd hi
 have e:QhK x (k:Int) g.1=(f,true):=by
  unfold QhK
  rw[QaU,hq]
  dsimp only
  rw[e3,Qf6 hq hf']
 have fk:f.Kind=2:=by
  have gk:f.Kind=g.2.1:=congrArg (fun s:Sg=>s.2.1) eg
  unfold fokB at hf
  simp only[Bool.and_eq_true] at hf
  have h2:=hf.2.2
  have h3:((g.1==nLow||g.1==Qjx)||g.1==QkT)=true:=by simpa[or_assoc] using hn
  rw[h3] at h2
  rw[gk]
  simpa using h2
 unfold Qez Qeh
 rw[e]
 dsimp only
 rw[fk]
 simp
theorem Qp2 (k:Int):Qez x k []=false∧Qeh x k []=false:=⟨rfl,rfl⟩
theorem Qsy (hC:Qbx (x.Kinds.map ks)) {n:Int} (hR:QfP x.Kinds n x.Rules) {i:Nat} {r:Qj} (hr:x.Rules[i]?=some r):Qhc x i r=0:=by
 obtain⟨ps,e1,e2,e3⟩:=hR
 have nm:∀(j:Nat) (s:Qj),x.Rules[j]?=some s→∃kk,(ps.map Prod.fst)[j]?=some kk∧∃q,x.Kinds[kk]?=some q∧Qjy (ks q) s:=fun j s hs=>by
  rw[←e1,getElem?_map] at hs
  obtain⟨p,hp,rfl⟩:=Option.map_eq_some_iff.1 hs
  obtain⟨_,q,hq,h⟩:=e3 p (mem_of_getElem? hp)
  exact⟨p.1,by rw[getElem?_map,hp];rfl,q,hq,h⟩
 obtain⟨kk,hkk,q,hq,hrule⟩:=nm i r hr
 obtain⟨hrk,⟨pr,hpr⟩,hcase⟩:=hrule
 have hsg:=QhR hC hq
 obtain⟨_,_,_,ek⟩:=QdO hC hsg
 have ek':kindIx x r.Kind=(kk:Int):=by rw[hrk];exact ek
 have hlow:=(hC.inv kk _ hsg).piece.low
 have h2:(Qez x (kk:Int) r.A=false∧Qeh x (kk:Int) r.A=false)∧(Qez x (kk:Int) r.B=false∧Qeh x (kk:Int) r.B=false)∧(r.A==r.B)=false:=by
  rcases hcase with⟨ea,eb,hg⟩ | ⟨hg,⟨ea,eb⟩ | ⟨ea,eb⟩⟩
  ·rw[ea,eb]
   exact⟨Qgl hC hq hg (.inl (.inl rfl)),Qgl hC hq (hlow hg) (.inl (.inr rfl)),by decide⟩
  ·rw[ea,eb]
   exact⟨Qgl hC hq hg (.inr rfl),Qp2 _,by decide⟩
  ·rw[ea,eb]
   exact⟨Qp2 _,Qgl hC hq hg (.inr rfl),by decide⟩
 obtain⟨⟨a1,a2⟩,⟨b1,b2⟩,ab⟩:=h2
 unfold Qhc
 rw[ek',a1,a2,b1,b2,ab]
 refine fst0 ?_ (fst0 (by simp) (fst0 rfl (fst0 rfl rfl)))
 rw[any_eq_false]
 intro s hs
 obtain⟨j,hj⟩:=mem_iff_getElem?.1 hs
 rw[getElem?_take] at hj
 split at hj
 ·rename_i hji
  obtain⟨k2,hk2,q2,hq2,_,⟨ps2,hps2⟩,_⟩:=nm j s hj
  obtain⟨l1,g1⟩:=List.getElem?_eq_some_iff.1 hk2
  obtain⟨l2,g2⟩:=List.getElem?_eq_some_iff.1 hkk
  have hlt:=pairwise_iff_getElem.1 e2 j i l1 l2 hji
  rw[g1,g2] at hlt
  have n1:=hC.name_at hsg
  have n2:=hC.name_at (QhR hC hq2)
  have hl:(x.Kinds.map ks).length≤3:=hC.names.1
  have hk3:=(List.getElem?_eq_some_iff.1 hsg).1
  intro e
  have e':s.Name=r.Name:=by simpa using e
  rw[hps2,hpr] at e'
  have key:∀a b:Nat,a<b→b<3→∀u v:Str,QgZ[a]?=some u→QgZ[b]?=some v→(u.take 1).length=(v.take 1).length∧u.take 1≠v.take 1:=by
   intro a b hab hb u v hu hv
   have:(a=0∧b=1)∨(a=0∧b=2)∨(a=1∧b=2):=by omega
   rcases this with⟨rfl,rfl⟩ | ⟨rfl,rfl⟩ | ⟨rfl,rfl⟩<;>cases hu<;>cases hv<;>decide
  obtain⟨m1,m2⟩:=key k2 kk hlt (by omega) _ _ n2 n1
  exact m2 (append_inj' e' m1).2
 ·cases hj
theorem Qid {k j r e:Int} (h:e=0):prob k j r e=[]:=if_pos h
theorem Qqy (hC:Qbx (x.Kinds.map ks)) (hL:∃L,x.Lives=[L]∧L.Name=QmD) {n:Int} (hR:QfP x.Kinds n x.Rules) (hv:QfJ x=0):QP x=[]:=by
 unfold QP
 rw[if_pos hv]
 have h1:QfL x=[]:=by
  obtain⟨L,hL,_⟩:=hL
  unfold QfL
  rw[flatMap_eq_nil_iff]
  intro i hi
  have hi':=mem_range.1 hi
  rw[hL] at hi'
  have:i=0:=by simpa using hi'
  subst this
  unfold Qhd
  rw[hL]
  exact Qid rfl
 have h2:QgR x=[]:=by
  unfold QgR
  rw[flatMap_eq_nil_iff]
  intro i hi
  unfold Qgg
  cases hq:x.Kinds[i]? with
  | none=>rfl
  | some q=>
   dsimp only
   have hsg:=QhR hC hq
   obtain⟨hn,r,hr,_⟩:=hC.fields _ (mem_of_getElem? hsg)
   obtain⟨_,_,_,ek⟩:=QdO hC hsg
   rw[Qid,nil_append]
   ·unfold QiH
    rw[flatMap_eq_nil_iff]
    intro j hj
    unfold QfK
    cases hf:q.Fields[j]? with
    | none=>rfl
    | some f=>
     refine Qid ?_
     unfold QhM
     have hs:(ks q).2[j]?=some (sg f):=by unfold ks;dsimp only;rw[getElem?_map,hf];rfl
     obtain⟨_,_,_,e1⟩:=Qcy hn hs
     have e2:fieldIx q f.Name=(j:Int):=e1
     rw[e2,if_neg (by omega)]
     exact Qsx hC hL hq hf
   ·unfold Qh2
    have ek':kindIx x q.Name=(i:Int):=ek
    refine fst0 (by rw[ek'];simp) (fst0 ?_ rfl)
    unfold ks at hr
    dsimp only at hr
    cases hq2:q.Fields with
    | nil=>rw[hq2] at hr;cases hr
    | cons f fs=>
     rw[hq2,map_cons] at hr
     have e0:sg f=sId:=(List.cons.inj hr).1
     have:f.Kind=0:=congrArg (fun s:Sg=>s.2.1) e0
     simp[this]
     omega
 have h3:Qpl x=[]:=by
  unfold Qpl
  rw[flatMap_eq_nil_iff]
  intro i hi
  unfold Qh3
  cases hr:x.Rules[i]? with
  | none=>rfl
  | some r=>exact Qid (Qsy hC hR hr)
 rw[h1,h2,h3]
 rfl
end
/-- A schema of the generator, or one like it, with other numbers of records. -/
structure GenS (x:Qa):Prop where
 sz:Sz x
 tiny:Tiny x
 valid:Qeg x=true
 chain:Qbx (x.Kinds.map ks)
 narrow:∀k∈x.Kinds,k.Hi - k.Lo≤29
 pos:1≤x.Kinds.length
 life:∃L,x.Lives=[L]∧L.Name=QmD
 rules:∃n,QfP x.Kinds n x.Rules
theorem GenS.clean {x:Qa} (h:GenS x):CleanS x:=by
 obtain⟨n,hR⟩:=h.rules
 exact⟨h.sz.short,Qqy h.chain h.life hR (Qst h.tiny h.valid),h.tiny.kinds,h.narrow⟩
theorem Qsz {l:List Int} (hl:∀x∈l,I64 x):Ok (QbF l) GenS:=by
 refine (Ok.and (Qt8 hl) (Ok.and (QwO hl) (QwP hl))).weak fun x hx=>?_
 obtain⟨h1,⟨h2,h3,h4⟩,⟨h5,h6,h9⟩,h7,h8⟩:=hx
 exact⟨h1.sz (by decide),h2,h3,h5,h6,h9,h7,h8⟩
end Go.Proofs.YtlajingmjmnfgaaGreatDoor
namespace Go.Proofs.YtlajingmjmnfgaaGreatDoor
open Go.Sim
end Go.Proofs.YtlajingmjmnfgaaGreatDoor
namespace Go.Proofs.YtlajingmjmnfgaaGreatDoor
open Go.Sim
/-- A field with other numbers. -/
structure FR (B:Int) (f g:Qb):Prop where
 name:g.Name=f.Name
 of:g.Of=f.Of
 up:g.Up=f.Up
 kind:g.Kind=f.Kind
 words:g.Words=f.Words
 weights:g.Weights=f.Weights
 ref:f.Kind=1→0≤g.Lo∧g.Lo≤g.Hi∧g.Hi≤B
 num:f.Kind=2∨f.Kind=4→-1048576≤g.Lo∧g.Lo≤g.Hi∧g.Hi≤1048576
 same:f.Kind≠1→f.Kind≠2→f.Kind≠4→g=f
def FsR (B:Int) (a b:List Qb):Prop:=b.length=a.length∧∀(j:Nat) (f:Qb),a[j]?=some f→∃g,b[j]?=some g∧FR B f g
/-- A kind with other numbers. -/
structure KR (B:Int) (k q:Qe):Prop where
 name:q.Name=k.Name
 span:0≤q.Lo∧q.Lo≤q.Hi∧q.Hi≤B
 fields:FsR B k.Fields q.Fields
def KsR (B:Int) (a b:List Qe):Prop:=b.length=a.length∧∀(j:Nat) (k:Qe),a[j]?=some k→∃q,b[j]?=some q∧KR B k q
def rkey (r:Qj):Str×Str×Str×Str:=(r.Name,r.Kind,r.A,r.B)
/-- A schema with other numbers, and perhaps fewer rules. -/
structure NumR (B:Int) (x y:Qa):Prop where
 version:y.Version=x.Version
 lives:y.Lives=x.Lives
 kinds:KsR B x.Kinds y.Kinds
 rules:(y.Rules.map rkey).Sublist (x.Rules.map rkey)
 ns:∀r∈y.Rules,-1048576≤r.N∧r.N≤1048576
theorem FsR.sg {B:Int} {a b:List Qb} (h:FsR B a b):b.map sg=a.map sg:=by
 refine ext_getElem? fun j=>?_
 rw[getElem?_map,getElem?_map]
 cases hf:a[j]? with
 | none=>rw[getElem?_eq_none (by rw[h.1];exact List.getElem?_eq_none_iff.1 hf)]
 | some f=>
  obtain⟨g,hg,hr⟩:=h.2 j f hf
  rw[hg]
  simp only[Option.map_some,Go.Proofs.YtlajingmjmnfgaaGreatDoor.sg,hr.name,hr.kind,hr.of,hr.up]
theorem KsR.ks {B:Int} {a b:List Qe} (h:KsR B a b):b.map ks=a.map ks:=by
 refine ext_getElem? fun j=>?_
 rw[getElem?_map,getElem?_map]
 cases hf:a[j]? with
 | none=>rw[getElem?_eq_none (by rw[h.1];exact List.getElem?_eq_none_iff.1 hf)]
 | some k=>
  obtain⟨q,hq,hr⟩:=h.2 j k hf
  rw[hq]
  simp only[Option.map_some,Go.Proofs.YtlajingmjmnfgaaGreatDoor.ks,hr.name,hr.fields.sg]
theorem KsR.back {B:Int} {a b:List Qe} (h:KsR B a b) {q:Qe} (hq:q∈b):∃k∈a,KR B k q:=by
 obtain⟨j,hj,rfl⟩:=getElem_of_mem hq
 have hja:j<a.length:=by rw[←h.1];exact hj
 obtain⟨q,hq,hr⟩:=h.2 j a[j] (getElem?_eq_getElem hja)
 rw[getElem?_eq_getElem hj] at hq
 obtain rfl:=Option.some.inj hq
 exact⟨_,getElem_mem hja,hr⟩
theorem FsR.back {B:Int} {a b:List Qb} (h:FsR B a b) {q:Qb} (hq:q∈b):∃k∈a,FR B k q:=by
 obtain⟨j,hj,rfl⟩:=getElem_of_mem hq
 have hja:j<a.length:=by rw[←h.1];exact hj
 obtain⟨q,hq,hr⟩:=h.2 j a[j] (getElem?_eq_getElem hja)
 rw[getElem?_eq_getElem hj] at hq
 obtain rfl:=Option.some.inj hq
 exact⟨_,getElem_mem hja,hr⟩
theorem QmE {lo hi a b:Int} (h:a≤lo∧lo≤hi∧hi≤b):Qew lo hi a b=true:=by
 simp only[Qew,Bool.and_eq_true,decide_eq_true_eq];omega
theorem FR.fieldS {B:Int} (hB:B≤29) {f g:Qb} (h:FR B f g) (hf:fieldS f=true):fieldS g=true:=by
 by_cases h1:f.Kind=1
 ·have hs:=QmE (a:=0) (b:=65536) (by have:=h.ref h1;omega:0≤g.Lo∧g.Lo≤g.Hi∧g.Hi≤65536)
  have hk:g.Kind=1:=h.kind.trans h1
  unfold Go.Proofs.YtlajingmjmnfgaaGreatDoor.fieldS QdZ Qdt Qd0 at hf ⊢
  rw[hk,h.name,h.of,h.up,h.words,h.weights]
  rw[h1] at hf
  simp at hf ⊢
  exact⟨⟨hf.1.1,hf.1.2⟩,hf.2.1,hs⟩
 ·by_cases h2:f.Kind=2
  ·have hs:=QmE (h.num (.inl h2))
   have hk:g.Kind=2:=h.kind.trans h2
   unfold Go.Proofs.YtlajingmjmnfgaaGreatDoor.fieldS QdZ Qdt Qd0 at hf ⊢
   rw[hk,h.name,h.of,h.up,h.words,h.weights]
   rw[h2] at hf
   simp at hf ⊢
   exact⟨⟨hf.1.1,hf.1.2⟩,hs⟩
  ·by_cases h4:f.Kind=4
   ·have hs:=QmE (h.num (.inr h4))
    have hk:g.Kind=4:=h.kind.trans h4
    unfold Go.Proofs.YtlajingmjmnfgaaGreatDoor.fieldS QdZ Qdt Qd0 at hf ⊢
    rw[hk,h.name,h.of,h.up,h.words,h.weights]
    rw[h4] at hf
    simp at hf ⊢
    exact⟨⟨hf.1.1,hf.1.2⟩,hf.2.1,hs⟩
   ·rw[h.same h1 h2 h4];exact hf
theorem KR.kindS {B:Int} (hB:B≤29) {k q:Qe} (h:KR B k q) (hk:kindS k=true):kindS q=true:=by
 unfold Go.Proofs.YtlajingmjmnfgaaGreatDoor.kindS at hk ⊢
 simp only[Bool.and_eq_true,decide_eq_true_eq,all_eq_true] at hk ⊢
 refine⟨⟨⟨by rw[h.name];exact hk.1.1.1,QmE (by have:=h.span;omega)⟩,by rw[h.fields.1];exact hk.1.2⟩,fun g hg=>?_⟩
 obtain⟨f,hf,hr⟩:=h.fields.back hg
 exact hr.fieldS hB (hk.2 f hf)
theorem Qu2 {B:Int} {x y:Qa} (h:NumR B x y) {r:Qj} (hr:r∈y.Rules):∃s∈x.Rules,rkey s=rkey r:=by
 have:=h.rules.subset (mem_map_of_mem (f:=rkey) hr)
 obtain⟨s,hs,e⟩:=mem_map.1 this
 exact⟨s,hs,e⟩
theorem Qjy.key {q:Ks} {r s:Qj} (h:Qjy q s) (e:rkey s=rkey r):Qjy q r:=by
 simp only[rkey,Prod.mk.injEq] at e
 obtain⟨e1,e2,e3,e4⟩:=e
 unfold Qjy at h ⊢
 rw[←e1,←e2,←e3,←e4];exact h
theorem NumR.rulesS {B:Int} {x y:Qa} (h:NumR B x y) {n:Int} (hR:QfP x.Kinds n x.Rules):QfP y.Kinds n y.Rules:=by
 obtain⟨ps,p1,p2,p3⟩:=hR
 have hsub:=h.rules
 rw[←p1,map_map] at hsub
 obtain⟨qs,q1,q2⟩:=sublist_map_iff.1 hsub
 have hlen:qs.length=y.Rules.length:=by have:=congrArg length q2;simpa using this.symm
 refine⟨(qs.map Prod.fst).zip y.Rules,?_,?_,fun p hp=>?_⟩
 ·rw[map_snd_zip (by simp;omega)]
 ·rw[map_fst_zip (by simp;omega)]
  exact p2.sublist (q1.map Prod.fst)
 ·obtain⟨j,hj,rfl⟩:=getElem_of_mem hp
  have hj':j<qs.length:=by simp at hj;omega
  rw[getElem_zip]
  have hm:=q1.subset (getElem_mem hj')
  obtain⟨g1,k,hk,g2⟩:=p3 _ hm
  obtain⟨q,hq,hr⟩:=h.kinds.2 _ k hk
  refine⟨by simpa using g1,q,by simpa using hq,?_⟩
  have e0:ks q=ks k:=by unfold Go.Proofs.YtlajingmjmnfgaaGreatDoor.ks;rw[hr.name,hr.fields.sg]
  rw[e0]
  refine g2.key ?_
  have:=congrArg (fun l=>l[j]?) q2
  simp only[getElem?_map,getElem?_eq_getElem hj',getElem?_eq_getElem (show j<y.Rules.length by omega),Option.map_some,Option.some.injEq,Function.comp] at this
  exact this.symm
theorem NumR.genS {B:Int} (hB:B≤29) {x y:Qa} (h:NumR B x y) (hg:GenS x):GenS y:=by
 obtain⟨⟨⟨s1,s2⟩,s3,s4,s5⟩,⟨t1,t2,t3,t4,t5⟩,hv,hc,hn,hp,hl,n,hR⟩:=hg
 have hrl:y.Rules.length≤x.Rules.length:=by have:=h.rules.length_le;simpa using this
 have key:∀r∈y.Rules,∃s∈x.Rules,s.Name=r.Name∧s.Kind=r.Kind∧s.A=r.A∧s.B=r.B:=fun r hr=>by
  obtain⟨s,hs,e⟩:=Qu2 h hr
  simp only[rkey,Prod.mk.injEq] at e
  exact⟨s,hs,e⟩
 refine⟨⟨⟨by rw[h.kinds.1];exact s1,fun q hq=>?_⟩,by rw[h.lives];exact s3,by omega,fun r hr=>?_⟩,⟨by rw[h.kinds.1];exact t1,fun q hq g hgm=>?_,by rw[h.lives];exact t3,by rw[h.lives];exact t4,by omega⟩,?_,by rw[h.kinds.ks];exact hc,fun q hq=>?_,by rw[h.kinds.1];exact hp,by rw[h.lives];exact hl,n,h.rulesS hR⟩
 ·obtain⟨k,hk,hkr⟩:=h.kinds.back hq
  obtain⟨a1,a2,a3⟩:=s2 k hk
  refine⟨by rw[hkr.fields.1];exact a1,fun g hgm=>?_,by rw[hkr.name];exact a3⟩
  obtain⟨f,hf,hfr⟩:=hkr.fields.back hgm
  have:=a2 f hf
  unfold FZ FN at this ⊢
  rw[hfr.words,hfr.weights,hfr.name,hfr.of,hfr.up];exact this
 ·obtain⟨s,hs,e1,e2,e3,e4⟩:=key r hr
  have:=s5 s hs
  unfold RN at this ⊢
  rw[←e1,←e2,←e3,←e4];exact this
 ·obtain⟨k,hk,hkr⟩:=h.kinds.back hq
  obtain⟨f,hf,hfr⟩:=hkr.fields.back hgm
  rw[hfr.words];exact t2 k hk f hf
 ·unfold Qeg at hv ⊢
  simp only[Bool.and_eq_true,decide_eq_true_eq,all_eq_true] at hv ⊢
  obtain⟨⟨⟨⟨⟨⟨v1,v2⟩,v3⟩,v4⟩,v5⟩,v6⟩,v7⟩:=hv
  refine⟨⟨⟨⟨⟨⟨by rw[h.version];exact v1,by rw[h.kinds.1];exact v2⟩,by rw[h.lives];exact v3⟩,by omega⟩,fun q hq=>?_⟩,by rw[h.lives];exact v6⟩,fun r hr=>?_⟩
  ·obtain⟨k,hk,hkr⟩:=h.kinds.back hq
   exact hkr.kindS hB (v5 k hk)
  ·obtain⟨s,hs,e1,e2,e3,e4⟩:=key r hr
   have:=v7 s hs
   have hN:=h.ns r hr
   unfold Qck inW at this ⊢
   simp only[Bool.and_eq_true,decide_eq_true_eq] at this ⊢
   rw[←e1,←e2,←e3,←e4]
   exact⟨this.1,hN⟩
 ·obtain⟨k,hk,hkr⟩:=h.kinds.back hq
  have:=hkr.span;omega
/-! Tight -/
/-- The first i elements are changed, the others are as they were. -/
def Part {α:Type} (R:α→α→Prop) (a b:List α) (i:Nat):Prop:=b.length=a.length∧(∀(j:Nat) (f:α),a[j]?=some f→j<i→∃g,b[j]?=some g∧R f g)∧∀j:Nat,i≤j→b[j]?=a[j]?
theorem Part.zero {α:Type} (R:α→α→Prop) (a:List α):Part R a a 0:=⟨rfl,fun j f _ h=>by omega,fun _ _=>rfl⟩
theorem Part.step {α:Type} {R:α→α→Prop} {a b:List α} {i:Nat} (h:Part R a b i) {f g:α} (hf:a[i]?=some f) (hr:R f g):Part R a (b.set i g) (i+1):=by
 have hi:i<b.length:=by rw[h.1];exact (List.getElem?_eq_some_iff.1 hf).1
 refine⟨by simpa using h.1,fun j f' hf' hj=>?_,fun j hj=>?_⟩
 ·rw[getElem?_set]
  by_cases e:i=j
  ·subst e
   rw[hf] at hf'
   obtain rfl:=Option.some.inj hf'
   exact⟨g,by rw[if_pos rfl,if_pos hi],hr⟩
  ·rw[if_neg e]
   exact h.2.1 j f' hf' (by omega)
 ·rw[getElem?_set,if_neg (by omega)]
  exact h.2.2 j (by omega)
theorem Part.full {α:Type} {R:α→α→Prop} {a b:List α} {i:Nat} (h:Part R a b i) (hi:a.length≤i):b.length=a.length∧∀(j:Nat) (f:α),a[j]?=some f→∃g,b[j]?=some g∧R f g:=
 ⟨h.1,fun j f hf=>h.2.1 j f hf (by have:=(List.getElem?_eq_some_iff.1 hf).1;omega)⟩
theorem Part.at {α:Type} {R:α→α→Prop} {a b:List α} {i:Nat} (h:Part R a b i) (hi:i<b.length):∃f,a[i]?=some f∧b[i]?=some f:=by
 have hia:i<a.length:=by rw[←h.1];exact hi
 exact⟨a[i],getElem?_eq_getElem hia,by rw[h.2.2 i (Nat.le_refl _),getElem?_eq_getElem hia]⟩
def RR (r s:Qj):Prop:=rkey s=rkey r∧-1048576≤s.N∧s.N≤1048576
theorem QwQ {x:Qa} {l:List Int} (hs:QeB x) (hv:∀k∈x.Kinds,k.Fields.length≤1000) (hl:∀z∈l,I64 z):Ok (Qfa x l) (NumR 8 x):=by
 have hkl:=hs.few.1
 have hrl:=hs.rules
 unfold Qfa
 simp only[nil_append,length_nil,Nat.zero_add]
 refine Ok.rm (by omega) ?_
 refine Ok.bind (P:=fun p:Int×List Qe=>KsR 8 x.Kinds p.2) (Ok.loop (fun m s=>∃i:Nat,s.1=(i:Int)∧i+m=x.Kinds.length∧Part (KR 8) x.Kinds s.2.2 i) x.Kinds.length ⟨0,rfl,by omega,Part.zero _ _⟩ fun m s ⟨i,hi,him,hP⟩=>?_) (fun p hp=>?_)
 ·obtain⟨s1,at',L⟩:=s
  dsimp only at hi hP ⊢
  subst hi
  refine Ok.ite (fun h=>?_) (fun h=>?_)
  ·have hiL:i<L.length:=by simpa using h
   obtain⟨k,hk1,hk2⟩:=hP.at hiL
   have hkf:k.Fields.length≤1000:=hv k (mem_of_getElem? hk1)
   refine Ok.at1 hl (by decide) fun t28 a0 a1=>?_
   refine Ok.idx a0 a1 fun t29 ht29 _=>?_
   have h29:0≤t29∧t29≤6:=by
    simp only[mem_cons,not_mem_nil,or_false] at ht29
    omega
   rw[QaU,hk2]
   simp only[Option.bind_some]
   rw[QbL hiL]
   simp only[Option.bind_some]
   refine Ok.at1 hl (by decide) fun t44 b0 b1=>?_
   rw[QaU,getElem?_set,if_pos rfl,if_pos hiL]
   simp only[Option.bind_some]
   rw[QbL (by simpa using hiL)]
   simp only[Option.bind_some]
   rw[QaU,hk1]
   simp only[Option.bind_some]
   refine Ok.rm (by omega) ?_
   rw[QaU,getElem?_set,if_pos rfl,if_pos (by simpa using hiL)]
   simp only[Option.bind_some]
   rw[w64 (n:=t29+t44) (by omega) (by omega)]
   refine Ok.bind (P:=fun p:Int×List Qb=>FsR 8 k.Fields p.2) (Ok.loop (fun m s=>∃j:Nat,s.1=(j:Int)∧j+m=k.Fields.length∧Part (FR 8) k.Fields s.2.2 j) k.Fields.length ⟨0,rfl,by omega,Part.zero _ _⟩ fun m s ⟨j,hj,hjm,hQ⟩=>?_) (fun p hp=>?_)
   ·obtain⟨s1,at2,F⟩:=s
    dsimp only at hj hQ ⊢
    subst hj
    refine Ok.ite (fun h=>?_) (fun h=>?_)
    ·have hjF:j<F.length:=by simpa using h
     obtain⟨f,hf1,hf2⟩:=hQ.at hjF
     rw[QaU,hf2]
     simp only[Option.bind_some]
     have hstep:∀g,FR 8 f g→Ok ((setAt F (j:Int) g).bind fun t126s=>(some (Sum.inl ((i64.wrap ((j:Int)+(1:Int))),(i64.wrap (at2+(2:Int))),t126s)):Option ((Int×Int×List Qb)⊕(Int×List Qb)))) (fun o=>∃s',o=.inl s'∧∃k',k'<m∧∃j:Nat,s'.1=(j:Int)∧j+k'=k.Fields.length∧Part (FR 8) k.Fields s'.2.2 j):=fun g hg=>by
      rw[QbL hjF]
      exact Ok.mk ⟨_,rfl,m - 1,by have:=hQ.1;omega,j+1,QK (n:=k.Fields.length) (by have:=hQ.1;omega) (by omega),by have:=hQ.1;omega,hQ.step hf1 hg⟩
     by_cases h1:f.Kind=1
     ·rw[if_pos (by simpa using h1)]
      refine Ok.bind (P:=fun g:Qb=>FR 8 f g) ?_ (fun g hg=>?_)
      ·refine Ok.at1 hl (by decide) fun a a0 a1=>Ok.at1 hl (by decide) fun b b0 b1=>Ok.mk ?_
       rw[w64 (n:=a+b) (by omega) (by omega)]
       exact⟨rfl,rfl,rfl,rfl,rfl,rfl,fun _=>⟨by dsimp only;omega,by dsimp only;omega,by dsimp only;omega⟩,fun h=>by omega,fun h=>absurd h1 h⟩
      ·have hgk:g.Kind=1:=hg.kind.trans h1
       rw[if_neg (by rw[hgk];decide)]
       simp only[Option.bind_some]
       exact (hstep g hg).weak fun o ⟨s',e,ho⟩=>by subst e;exact ho
     ·rw[if_neg (by simpa using h1)]
      simp only[Option.bind_some]
      by_cases h24:f.Kind=2∨f.Kind=4
      ·rw[if_pos (by simpa using h24)]
       refine Ok.bind (P:=fun g:Qb=>FR 8 f g) ?_ (fun g hg=>(hstep g hg).weak fun o ⟨s',e,ho⟩=>by subst e;exact ho)
       refine Ok.at1 hl (by decide) fun a a0 a1=>Ok.at1 hl (by decide) fun b b0 b1=>Ok.mk ?_
       rw[w64 (n:=a+b) (by omega) (by omega)]
       exact⟨rfl,rfl,rfl,rfl,rfl,rfl,fun h=>absurd h h1,fun _=>⟨by dsimp only;omega,by dsimp only;omega,by dsimp only;omega⟩,fun _ h2 h4=>(h24.elim h2 h4).elim⟩
      ·rw[if_neg (by simpa using h24)]
       simp only[Option.bind_some]
       exact (hstep f ⟨rfl,rfl,rfl,rfl,rfl,rfl,fun h=>absurd h h1,fun h=>absurd h h24,fun _ _ _=>rfl⟩).weak fun o ⟨s',e,ho⟩=>by subst e;exact ho
    ·have hjF:¬j<F.length:=by simpa using h
     exact Ok.mk (hQ.full (by have:=hQ.1;omega))
   ·refine Ok.mk ⟨m - 1,by have:=hP.1;omega,i+1,QK (n:=x.Kinds.length) (by have:=hP.1;omega) (by omega),by have:=hP.1;omega,?_⟩
    dsimp only
    rw[Int.toNat_natCast,List.set_set,List.set_set]
    exact hP.step hk1 ⟨rfl,⟨by dsimp only;omega,by dsimp only;omega,by dsimp only;omega⟩,hp⟩
  ·have hiL:¬i<L.length:=by simpa using h
   exact Ok.mk (hP.full (by have:=hP.1;omega))
 ·refine Ok.rm (by omega) ?_
  refine Ok.bind (P:=fun p:List Qj=>∃i:Nat,x.Rules.length≤i∧Part RR x.Rules p i) (Ok.loop (fun m s=>∃i:Nat,s.1=(i:Int)∧i+m=x.Rules.length∧Part RR x.Rules s.2 i) x.Rules.length ⟨0,rfl,by omega,Part.zero _ _⟩ fun m s ⟨i,hi,him,hP⟩=>?_) (fun q ⟨i,hi,hq⟩=>?_)
  ·obtain⟨s1,L⟩:=s
   dsimp only at hi hP ⊢
   subst hi
   refine Ok.ite (fun h=>?_) (fun h=>?_)
   ·have hiL:i<L.length:=by simpa using h
    obtain⟨k,hk1,hk2⟩:=hP.at hiL
    refine Ok.at1 hl (by decide) fun a a0 a1=>?_
    rw[QaU,hk2]
    simp only[Option.bind_some]
    rw[QbL hiL]
    simp only[Option.bind_some]
    rw[w64 (n:=a - 9) (by omega) (by omega)]
    exact Ok.mk ⟨m - 1,by have:=hP.1;omega,i+1,QK (n:=x.Rules.length) (by have:=hP.1;omega) (by omega),by have:=hP.1;omega,hP.step hk1 ⟨rfl,by dsimp only;omega,by dsimp only;omega⟩⟩
   ·have hiL:¬i<L.length:=by simpa using h
    exact Ok.mk ⟨i,by have:=hP.1;omega,hP⟩
  ·obtain⟨q1,q2⟩:=hq.full hi
   refine Ok.mk ⟨rfl,rfl,hp,?_,fun r hr=>?_⟩
   ·have:q.map rkey=x.Rules.map rkey:=by
     refine ext_getElem? fun j=>?_
     rw[getElem?_map,getElem?_map]
     cases hf:x.Rules[j]? with
     | none=>rw[getElem?_eq_none (by rw[q1];exact List.getElem?_eq_none_iff.1 hf)]
     | some r=>
      obtain⟨g,hg,hr⟩:=q2 j r hf
      rw[hg];simp only[Option.map_some,hr.1]
    show (q.map rkey).Sublist (x.Rules.map rkey)
    rw[this];exact Sublist.refl _
   ·obtain⟨j,hj,rfl⟩:=getElem_of_mem hr
    have hjx:j<x.Rules.length:=by rw[←q1];exact hj
    obtain⟨g,hg,hr⟩:=q2 j _ (getElem?_eq_getElem hjx)
    rw[getElem?_eq_getElem hj] at hg
    obtain rfl:=Option.some.inj hg
    exact hr.2
end Go.Proofs.YtlajingmjmnfgaaGreatDoor
namespace Go.Proofs.YtlajingmjmnfgaaGreatDoor
open Go.Sim
theorem Qp3 {all:List Str} (hn:all.Nodup):∀{js:List Nat} {b:Nat},js.Pairwise (·< ·)→(∀j∈js,b≤j∧j<all.length)→Qdr all (js.map fun i=>all.getD i []) b=some js
 | [],_,_,_=>rfl
 | j::js,b,hp,h=>by
  obtain⟨hp1,hp2⟩:=pairwise_cons.1 hp
  obtain⟨hb,hj⟩:=h j (mem_cons_self ..)
  rw[map_cons]
  unfold Qdr
  have hg:all.getD j []=all[j]:=by rw[getD_eq_getElem?_getD,getElem?_eq_getElem hj];rfl
  have hf:all.findIdx? (fun t=>all.getD j []==t)=some j:=by
   rw[findIdx?_eq_some_iff_getElem]
   refine⟨hj,by rw[hg];simp,fun i hi=>?_⟩
   rw[hg]
   have:all[i]≠all[j]:=fun e=>by have:=QuR hn (by omega) hj e;omega
   simpa using this.symm
  rw[hf]
  dsimp only
  rw[if_pos hb,Qp3 hn hp2 fun i hi=>⟨by have:=hp1 i hi;omega,(h i (mem_cons_of_mem _ hi)).2⟩]
  rfl
theorem Qu3 {js:List Nat} (hn:js.Nodup) {s:Nat} (hs:s<js.length) {i:Nat}:i∈js.eraseIdx s↔i∈js∧i≠js[s]:=by
 constructor
 ·intro h
  refine⟨mem_of_mem_eraseIdx h,fun e=>?_⟩
  rw[eraseIdx_eq_take_drop_succ] at h
  have hp:=pairwise_iff_getElem.1 (show Pairwise (·≠·) js from hn)
  rcases mem_append.1 h with h | h
  ·obtain⟨a,ha,e2⟩:=mem_take_iff_getElem.1 h
   exact hp a s (by omega) hs (by omega) (e2.trans e)
  ·obtain⟨a,ha,e2⟩:=mem_drop_iff_getElem.1 h
   exact hp s (s+1+a) hs (by omega) (by omega) (e.symm.trans e2.symm)
 ·rintro ⟨h,hne⟩
  obtain⟨a,ha,rfl⟩:=getElem_of_mem h
  rw[eraseIdx_eq_take_drop_succ]
  rcases Nat.lt_trichotomy a s with h' | h' | h'
  ·exact mem_append_left _ (mem_take_iff_getElem.2 ⟨a,by omega,rfl⟩)
  ·subst h';exact absurd rfl hne
  ·exact mem_append_right _ (mem_drop_iff_getElem.2 ⟨a - (s+1),by omega,by simp only[show s+1+(a - (s+1))=a by omega]⟩)
/-- The three ways in which Why ends for a schema without problems. -/
theorem QhS {x:Qa} (hc:QP x=[]):(nLim x>16∧whyR x=([],4))∨(nLim x≤16∧Qc1 x=true∧whyR x=([],6))∨(nLim x≤16∧Qc1 x=false∧whyR x=((whyJ x).map (QgY x),0)):=by
 unfold whyR
 rw[hc]
 dsimp only
 by_cases h16:nLim x>16
 ·rw[if_pos h16];exact .inl ⟨h16,rfl⟩
 ·rw[if_neg h16]
  cases hb:Qc1 x with
  | true=>rw[if_pos rfl];exact .inr (.inl ⟨by omega,rfl,rfl⟩)
  | false=>rw[if_neg (by simp)];exact .inr (.inr ⟨by omega,rfl,rfl⟩)
/-- What is known of the indices that Why finds. -/
structure WhyOk (x:Qa):Prop where
 sorted:(whyJ x).Pairwise (·< ·)
 lt:∀j∈whyJ x,j<(QcT x).length
 not:QeF x (fun i=>(whyJ x).contains i)=false
 less:∀s,s<(whyJ x).length→QeF x (fun i=>((whyJ x).eraseIdx s).contains i)=true
 pos:0<(whyJ x).length
 few:(whyJ x).length≤300
theorem why_ok {x:Qa} (hc:QP x=[]) (h16:nLim x≤16) (hb:Qc1 x=false):WhyOk x:=by
 obtain⟨K,m,hmin,hbest,hsz⟩:=QpS hc h16 hb
 have hmem:∀i,i∈whyJ x↔i∈wOf x K m:=fun i=>by rw[QpW,hbest]
 have hsort:=Qqw (x:=x) (by rw[hbest];exact Qy9 hc K m)
 have hnd:(whyJ x).Nodup:=hsort.imp fun h=>by omega
 have hl:(whyJ x).length=Qbe x K m:=by rw[QpX,hbest,QkS h16 hmin.bad.lt]
 have h300:=Qhu hc
 refine⟨hsort,fun j hj=>?_,?_,fun s hs=>?_,by rw[hl];exact QpO hc h16 hmin.bad,by omega⟩
 ·rw[QgX];exact w_lt hc ((hmem j).1 hj)
 ·rw[w_kept hc hmin.bad.good hmem];exact hmin.bad.bad
 ·refine w_less hc h16 hmin ((hmem _).1 (getElem_mem hs)) fun i=>?_
  rw[Qu3 hnd hs,hmem]
theorem Qu4 {x:Qa} (hc:QP x=[]) (h16:nLim x≤16) (hb:Qc1 x=false):Qmy x ((whyJ x).map (QgY x))=0:=by
 have h:=why_ok hc h16 hb
 unfold Qmy
 rw[hc]
 dsimp only
 rw[if_neg (by omega)]
 have hm:Qdr (QcT x) ((whyJ x).map (QgY x)) 0=some (whyJ x):=Qp3 (Qqu hc) h.sorted fun j hj=>⟨by omega,h.lt j hj⟩
 rw[hm]
 dsimp only
 rw[h.not,if_neg (by simp),if_pos]
 exact all_eq_true.2 fun s hs=>h.less s (mem_range.1 hs)
end Go.Proofs.YtlajingmjmnfgaaGreatDoor
namespace Go.Proofs.YtlajingmjmnfgaaGreatDoor
open Go.Sim
def exS (lo:Int):Qa:=⟨0,[⟨[97],lo,5,[⟨[107],[],[],0,0,0,[],[]⟩,⟨[110],[],[],2,0,3,[],[]⟩]⟩],[],[⟨[114],[97],[],[110],-9⟩]⟩
theorem Qkr (lo:Int):QeB (exS lo):=⟨⟨by simp[exS],fun k hk=>by simp[exS] at hk;subst hk;simp⟩,⟨⟨by simp[exS],fun k hk=>by
 simp[exS] at hk;subst hk
 refine⟨by simp,fun f hf=>?_⟩
 simp at hf
 rcases hf with rfl | rfl<;>simp⟩,⟨by simp[exS],fun l hl=>by cases hl⟩,by simp[exS]⟩,by simp[exS],by simp[exS]⟩
set_option maxRecDepth 100000 in
theorem QwR:QP (exS 1)=[]∧nLim (exS 1)=2∧Qc1 (exS 1)=false∧Qdv (exS 1)=[0,3,4]∧QP (exS 0)=[]∧nLim (exS 0)=2∧Qc1 (exS 0)=true∧[0,3,4].map (QgY (exS 1))=[([97,32,108,101,97,115,116]:Str),([97,46,110,32,104,105,103,104]:Str),([114,117,108,101,58,114]:Str)]:=by decide+kernel
theorem Qp4:Qdp=some true:=by
 obtain⟨h1,h2,h3,h4,h5,h6,h7,h8⟩:=QwR
 have hJ:whyJ (exS 1)=[0,3,4]:=by
  unfold whyJ
  rw[h4,←Qt1];decide
 have hR:whyR (exS 1)=((whyJ (exS 1)).map (QgY (exS 1)),0):=by
  rcases QhS h1 with⟨h,_⟩ | ⟨_,h,_⟩ | ⟨_,_,h⟩
  ·omega
  ·rw[h3] at h;cases h
  ·exact h
 have hR0:whyR (exS 0)=([],6):=by
  rcases QhS h5 with⟨h,_⟩ | ⟨_,_,h⟩ | ⟨_,h,_⟩
  ·omega
  ·exact h
  ·rw[h7] at h;cases h
 have hC:=Qu4 h1 (by omega) h3
 rw[hJ,h8] at hR
 rw[hJ,h8] at hC
 have e1:Qcm (1:Int)=some (exS 1):=rfl
 have e0:Qcm (0:Int)=some (exS 0):=rfl
 unfold Qdp
 rw[e1,e0]
 simp only[Option.bind_some]
 rw[Qko (Qkr 1),Qko (Qkr 0),hR,hR0]
 simp only[Option.bind_some,opt,beq_self_eq_true,Bool.and_self,if_true]
 rw[Qm5 (by simp)]
 have e:((true&&true)==true)=true:=rfl
 simp only[Option.bind_some,e,if_true]
 rw[Qss (Qkr 1) (by simp),hC]
 rfl
end Go.Proofs.YtlajingmjmnfgaaGreatDoor
namespace Go.Proofs.YtlajingmjmnfgaaGreatDoor
open Go.Sim
/-- A field with wider numbers. -/
structure FW (f g:Qb):Prop where
 name:g.Name=f.Name
 of:g.Of=f.Of
 kind:g.Kind=f.Kind
 wide:f.Kind=1∨f.Kind=2∨f.Kind=4→g.Lo≤f.Lo∧f.Hi≤g.Hi
structure KW (k q:Qe):Prop where
 name:q.Name=k.Name
 wide:q.Lo≤k.Lo∧k.Hi≤q.Hi
 len:q.Fields.length=k.Fields.length
 fields:∀(j:Nat) (f:Qb),k.Fields[j]?=some f→∃g,q.Fields[j]?=some g∧FW f g
structure WidR (x y:Qa):Prop where
 len:y.Kinds.length=x.Kinds.length
 kinds:∀(j:Nat) (k:Qe),x.Kinds[j]?=some k→∃q,y.Kinds[j]?=some q∧KW k q
 rules:∀r∈y.Rules,r∈x.Rules
theorem FW.refl (f:Qb):FW f f:=⟨rfl,rfl,rfl,fun _=>⟨Int.le_refl _,Int.le_refl _⟩⟩
theorem KW.refl (k:Qe):KW k k:=⟨rfl,⟨Int.le_refl _,Int.le_refl _⟩,rfl,fun _ f hf=>⟨f,hf,FW.refl f⟩⟩
theorem Qgm {α β:Type} (s:List α) (g:α→β) (p:β→Bool):Qau s (fun a=>p (g a))=Qau (s.map g) p:=by
 unfold Qau
 rw[findIdx?_map];rfl
section
variable {x y:Qa} (h:WidR x y)
include h
theorem WidR.back {j:Nat} {q:Qe} (hq:y.Kinds[j]?=some q):∃k,x.Kinds[j]?=some k∧KW k q:=by
 have hj:j<x.Kinds.length:=by rw[←h.len];exact (List.getElem?_eq_some_iff.1 hq).1
 obtain⟨q',hq',hk⟩:=h.kinds j _ (getElem?_eq_getElem hj)
 rw[hq] at hq'
 obtain rfl:=Option.some.inj hq'
 exact⟨_,getElem?_eq_getElem hj,hk⟩
omit h in
theorem KW.back {k q:Qe} (h:KW k q) {j:Nat} {g:Qb} (hg:q.Fields[j]?=some g):∃f,k.Fields[j]?=some f∧FW f g:=by
 have hj:j<k.Fields.length:=by rw[←h.len];exact (List.getElem?_eq_some_iff.1 hg).1
 obtain⟨g',hg',hf⟩:=h.fields j _ (getElem?_eq_getElem hj)
 rw[hg] at hg'
 obtain rfl:=Option.some.inj hg'
 exact⟨_,getElem?_eq_getElem hj,hf⟩
theorem WidR.names:y.Kinds.map (fun k=>k.Name)=x.Kinds.map (fun k=>k.Name):=by
 refine ext_getElem? fun j=>?_
 rw[getElem?_map,getElem?_map]
 cases hk:x.Kinds[j]? with
 | none=>rw[getElem?_eq_none (by rw[h.len];exact List.getElem?_eq_none_iff.1 hk)]
 | some k=>
  obtain⟨q,hq,hw⟩:=h.kinds j k hk
  rw[hq,Option.map_some,Option.map_some,hw.name]
theorem WidR.kindIx (n:Str):kindIx y n=kindIx x n:=by
 unfold Go.Proofs.YtlajingmjmnfgaaGreatDoor.kindIx
 rw[Qgm y.Kinds (fun k=>k.Name) (fun s=>s==n),h.names,←Qgm x.Kinds (fun k=>k.Name) (fun s=>s==n)]
omit h in
theorem KW.fieldIx {k q:Qe} (h:KW k q) (n:Str):fieldIx q n=fieldIx k n:=by
 unfold Go.Proofs.YtlajingmjmnfgaaGreatDoor.fieldIx
 have:q.Fields.map (fun f=>f.Name)=k.Fields.map (fun f=>f.Name):=by
  refine ext_getElem? fun j=>?_
  rw[getElem?_map,getElem?_map]
  cases hk:k.Fields[j]? with
  | none=>rw[getElem?_eq_none (by rw[h.len];exact List.getElem?_eq_none_iff.1 hk)]
  | some f=>
   obtain⟨g,hg,hw⟩:=h.fields j f hk
   rw[hg,Option.map_some,Option.map_some,hw.name]
 rw[Qgm q.Fields (fun f=>f.Name) (fun s=>s==n),this,←Qgm k.Fields (fun f=>f.Name) (fun s=>s==n)]
/-- A wider limit. -/
def LW (a b:Qg):Prop:=b.A=a.A∧b.B=a.B∧b.Least=a.Least∧(a.Least=true→b.Mul≤a.Mul)∧(a.Least=false→a.Mul≤b.Mul)
theorem WidR.limits:nLim y=nLim x∧∀b∈QeE y,∃a∈QeE x,LW a b:=by
 have hf:∀(i j:Nat) (k q:Qe),KW k q→(fldL Qg.mk y i q j).length=(fldL Qg.mk x i k j).length∧∀b∈fldL Qg.mk y i q j,∃a∈fldL Qg.mk x i k j,LW a b:=fun i j k q hkq=>by
  unfold fldL
  cases hq:q.Fields[j]? with
  | none=>
   rw[getElem?_eq_none (by rw[←hkq.len];exact List.getElem?_eq_none_iff.1 hq)]
   exact⟨rfl,fun b hb=>by cases hb⟩
  | some g=>
   obtain⟨f,hf,hw⟩:=hkq.back hq
   rw[hf]
   dsimp only
   rw[hw.kind]
   by_cases h1:f.Kind=1
   ·rw[if_pos (by simpa using h1),if_pos (by simpa using h1),hw.of,h.kindIx]
    have hwd:=hw.wide (.inl h1)
    refine⟨rfl,fun b hb=>?_⟩
    simp only[Qe1,mem_cons,not_mem_nil,or_false] at hb ⊢
    rcases hb with rfl | rfl
    ·exact⟨_,.inl rfl,rfl,rfl,rfl,fun _=>hwd.1,(fun h=>nomatch h)⟩
    ·exact⟨_,.inr rfl,rfl,rfl,rfl,(fun h=>nomatch h),fun _=>hwd.2⟩
   ·rw[if_neg (by simpa using h1),if_neg (by simpa using h1)]
    exact⟨rfl,fun b hb=>by cases hb⟩
 have hk:∀i,(kndL Qg.mk y i).length=(kndL Qg.mk x i).length∧∀b∈kndL Qg.mk y i,∃a∈kndL Qg.mk x i,LW a b:=fun i=>by
  unfold kndL
  cases hq:y.Kinds[i]? with
  | none=>
   rw[getElem?_eq_none (by rw[←h.len];exact List.getElem?_eq_none_iff.1 hq)]
   exact⟨rfl,fun b hb=>by cases hb⟩
  | some q=>
   obtain⟨k,hk,hw⟩:=h.back hq
   rw[hk]
   dsimp only
   refine⟨?_,fun b hb=>?_⟩
   ·rw[length_append,length_append,length_flatMap,length_flatMap,hw.len]
    refine congrArg (2+sum ·) (map_congr_left fun j _=>(hf i j k q hw).1)
   ·rcases mem_append.1 hb with hb | hb
    ·simp only[Qe1,mem_cons,not_mem_nil,or_false] at hb
     rcases hb with rfl | rfl
     ·exact⟨_,mem_append_left _ (mem_cons_self ..),rfl,rfl,rfl,fun _=>hw.wide.1,(fun h=>nomatch h)⟩
     ·exact⟨_,mem_append_left _ (mem_cons_of_mem _ (mem_cons_self ..)),rfl,rfl,rfl,(fun h=>nomatch h),fun _=>hw.wide.2⟩
    ·obtain⟨j,hj,hb⟩:=mem_flatMap.1 hb
     obtain⟨a,ha,hab⟩:=(hf i j k q hw).2 b hb
     exact⟨a,mem_append_right _ (mem_flatMap.2 ⟨j,by rw[←hw.len];exact hj,ha⟩),hab⟩
 unfold nLim QeE limL
 refine⟨?_,fun b hb=>?_⟩
 ·rw[length_flatMap,length_flatMap,h.len]
  exact congrArg sum (map_congr_left fun i _=>(hk i).1)
 ·obtain⟨i,hi,hb⟩:=mem_flatMap.1 hb
  obtain⟨a,ha,hab⟩:=(hk i).2 b hb
  exact⟨a,mem_flatMap.2 ⟨i,by rw[←h.len];exact hi,ha⟩,hab⟩
theorem WidR.refs:QfS y=QfS x:=by
 unfold QfS
 rw[h.len]
 refine Qfm fun i hi=>?_
 unfold refK
 obtain⟨q,hq,hw⟩:=h.kinds i _ (getElem?_eq_getElem hi)
 rw[hq,getElem?_eq_getElem hi]
 dsimp only
 rw[hw.len]
 refine Qfm fun j hj=>?_
 unfold refF
 obtain⟨g,hg,hf⟩:=hw.fields j _ (getElem?_eq_getElem hj)
 rw[hg,getElem?_eq_getElem hj]
 dsimp only
 rw[hf.kind]
 by_cases h1:x.Kinds[i].Fields[j].Kind=1
 ·rw[if_pos (by simpa using h1),if_pos (by simpa using h1)]
  have up:∀(z:Qa) (k:Qe) (f:Qb),z.Kinds[i]?=some k→k.Fields[j]?=some f→f.Kind=1→upIx z (i:Int) (j:Int)=if Go.Proofs.YtlajingmjmnfgaaGreatDoor.kindIx z f.Of<(i:Int) then Go.Proofs.YtlajingmjmnfgaaGreatDoor.kindIx z f.Of else -1:=fun z k f hk hf hf1=>by
   have e:field? z (i:Int) (j:Int)=some f:=by
    unfold field?
    rw[if_pos ⟨by omega,by omega⟩,Int.toNat_natCast,Int.toNat_natCast,hk,Option.bind_some,hf]
   unfold upIx
   rw[e]
   dsimp only
   rw[if_neg (by omega),if_pos hf1]
   rfl
  rw[up y q g hq hg (hf.kind.trans h1),up x _ _ (getElem?_eq_getElem hi) (getElem?_eq_getElem hj) h1,hf.of,h.kindIx]
 ·rw[if_neg (by simpa using h1),if_neg (by simpa using h1)]
/-- A wider difference. -/
def DW (a b:Dt):Prop:=b.1=a.1∧b.2.2.A=a.2.2.A∧b.2.2.B=a.2.2.B∧a.2.2.N≤b.2.2.N
theorem WidR.diffs (hx:QP x=[]) (hy:QP y=[]):∀b∈Qap y,∃a∈Qap x,DW a b:=by
 intro b hb
 have vx:=Qal hx
 have vy:=Qal hy
 unfold Qap at hb ⊢
 rcases mem_append.1 hb with hb | hb
 ·obtain⟨i,hi,hb⟩:=mem_flatMap.1 hb
  have hi:=mem_range.1 hi
  have hix:i<x.Kinds.length:=by rw[←h.len];exact hi
  obtain⟨q,hq,hw⟩:=h.kinds i _ (getElem?_eq_getElem hix)
  unfold kndT at hb
  rw[hq] at hb
  obtain⟨j,hj,hb⟩:=mem_flatMap.1 hb
  have hj:=mem_range.1 hj
  have hjx:j<x.Kinds[i].Fields.length:=by rw[←hw.len];exact hj
  obtain⟨g,hg,hf⟩:=hw.fields j _ (getElem?_eq_getElem hjx)
  have hgF:=(Qcl (vy.kind q (mem_of_getElem? hq))).2.2 g (mem_of_getElem? hg)
  have hfF:=(Qcl (vx.kind _ (getElem_mem hix))).2.2 _ (getElem_mem hjx)
  unfold fldT at hb
  rw[hg] at hb
  dsimp only at hb
  split at hb
  ·cases hb
  ·next hk=>
   rw[hf.kind] at hk
   have hk':x.Kinds[i].Fields[j].Kind=2∨x.Kinds[i].Fields[j].Kind=4:=by
    simp only[Bool.and_eq_true,bne_iff_ne,ne_eq,not_and,Classical.not_not] at hk
    by_cases h2:x.Kinds[i].Fields[j].Kind=2
    ·exact .inl h2
    ·exact .inr (hk h2)
   have hwd:=hf.wide (.inr hk')
   have hof:ofIx q g=ofIx x.Kinds[i] x.Kinds[i].Fields[j]:=by unfold ofIx;rw[hf.kind,hf.of,hw.fieldIx]
   have p1:=QlA hgF (by rw[hf.kind];exact hk')
   have p2:=QlA hfF hk'
   have w1:i64.wrap (0 - g.Lo)=0 - g.Lo:=w64 (by omega) (by omega)
   have w2:i64.wrap (0 - x.Kinds[i].Fields[j].Lo)=0 - x.Kinds[i].Fields[j].Lo:=w64 (by omega) (by omega)
   have hin:∀t∈[((i:Int),dotN x.Kinds[i] x.Kinds[i].Fields[j]++lowT,QM.mk (ofIx x.Kinds[i] x.Kinds[i].Fields[j]) (j:Int) (i64.wrap (0 - x.Kinds[i].Fields[j].Lo))),((i:Int),dotN x.Kinds[i] x.Kinds[i].Fields[j]++Qol,QM.mk (j:Int) (ofIx x.Kinds[i] x.Kinds[i].Fields[j]) x.Kinds[i].Fields[j].Hi)],t∈(range x.Kinds.length).flatMap (kndT x)++(range x.Rules.length).flatMap (rulT x):=fun t ht=>by
    refine mem_append_left _ (mem_flatMap.2 ⟨i,mem_range.2 hix,?_⟩)
    unfold kndT
    rw[getElem?_eq_getElem hix]
    refine mem_flatMap.2 ⟨j,mem_range.2 hjx,?_⟩
    unfold fldT
    rw[getElem?_eq_getElem hjx]
    dsimp only
    rw[if_neg hk];exact ht
   simp only[mem_cons,not_mem_nil,or_false] at hb
   rcases hb with rfl | rfl
   ·exact⟨_,hin _ (mem_cons_self ..),rfl,hof,rfl,by dsimp only;rw[w1,w2];omega⟩
   ·exact⟨_,hin _ (mem_cons_of_mem _ (mem_cons_self ..)),rfl,rfl,hof,hwd.2⟩
 ·obtain⟨i,hi,hb⟩:=mem_flatMap.1 hb
  have hi:=mem_range.1 hi
  have hrm:=h.rules _ (getElem_mem hi)
  obtain⟨j,hj,e⟩:=getElem_of_mem hrm
  obtain⟨q,hq0,hq,_⟩:=QgT hy (getElem?_eq_getElem hi)
  obtain⟨k,hk0,hk,_⟩:=QgT hx (getElem?_eq_getElem hj)
  unfold rulT at hb
  rw[getElem?_eq_getElem hi] at hb
  dsimp only at hb
  rw[hq] at hb
  obtain rfl:=mem_singleton.1 hb
  have hkw:KW k q:=by
   have e2:Go.Proofs.YtlajingmjmnfgaaGreatDoor.kindIx y y.Rules[i].Kind=Go.Proofs.YtlajingmjmnfgaaGreatDoor.kindIx x x.Rules[j].Kind:=by rw[h.kindIx,e]
   rw[e2] at hq
   obtain⟨n,hn⟩:=Int.eq_ofNat_of_zero_le hk0
   rw[hn,QaU] at hk hq
   obtain⟨k',hk',hw⟩:=h.back hq
   rw[hk] at hk'
   obtain rfl:=Option.some.inj hk'
   exact hw
  refine⟨_,mem_append_right _ (mem_flatMap.2 ⟨j,mem_range.2 hj,by unfold rulT;rw[getElem?_eq_getElem hj];dsimp only;rw[hk];exact mem_singleton.2 rfl⟩),?_,?_,?_,?_⟩
  ·dsimp only;rw[h.kindIx,e]
  ·dsimp only;rw[hkw.fieldIx,e]
  ·dsimp only;rw[hkw.fieldIx,e]
  ·dsimp only;rw[e];exact Int.le_refl _
theorem WidR.neg (hx:QP x=[]) (hy:QP y=[]) {k:Int} (k0:0≤k) (k1:k<x.Kinds.length) (hn:NegK y k fun _=>True):NegK x k fun _=>True:=by
 obtain⟨i,es,h1,h2,h3⟩:=hn
 have hfl:flen y k=flen x k:=by
  unfold flen
  obtain⟨n,rfl⟩:=Int.eq_ofNat_of_zero_le k0
  have hi:n<x.Kinds.length:=by omega
  obtain⟨q,hq,hw⟩:=h.kinds n _ (getElem?_eq_getElem hi)
  rw[QaU,QaU,hq,getElem?_eq_getElem hi]
  exact hw.len
 have key:∀(es:List Ed) (a b:Nat),walk a b es→(∀e∈es,∃j,j<(Qap y).length∧dK y j=k∧True∧e=edN (flen y k+1) (dD y j))→∃fs,walk a b fs∧esum fs≤esum es∧∀e∈fs,∃j,j<(Qap x).length∧dK x j=k∧True∧e=edN (flen x k+1) (dD x j):=by
  intro es
  induction es with
  | nil=>intro a b hw _;exact⟨[],hw,Int.le_refl _,fun e he=>by cases he⟩
  | cons e es ih=>
   intro a b hw he
   obtain⟨fs,f1,f2,f3⟩:=ih e.b b hw.2 fun e' he'=>he e' (mem_cons_of_mem _ he')
   obtain⟨j,hj,hk,_,rfl⟩:=he e (mem_cons_self ..)
   obtain⟨t,ht,d1,d2,d3,d4⟩:=h.diffs hx hy _ (getElem_mem hj)
   obtain⟨n,hnl,rfl⟩:=getElem_of_mem ht
   have eK:dK x n=k:=by
    unfold dK at hk ⊢
    rw[QgV hj] at hk
    rw[QgV hnl,←d1];exact hk
   have eD:dD y j=(Qap y)[j].2.2:=by unfold dD;rw[QgV hj]
   have eDx:dD x n=(Qap x)[n].2.2:=by unfold dD;rw[QgV hnl]
   have ea:(edN (flen x k+1) (dD x n)).a=(edN (flen y k+1) (dD y j)).a:=by
    show rowN _ _=rowN _ _
    rw[hfl,eD,eDx,d2]
   have eb:(edN (flen x k+1) (dD x n)).b=(edN (flen y k+1) (dD y j)).b:=by
    show rowN _ _=rowN _ _
    rw[hfl,eD,eDx,d3]
   refine⟨edN (flen x k+1) (dD x n)::fs,⟨ea.trans hw.1,by rw[eb];exact f1⟩,?_,fun e' he'=>?_⟩
   ·rw[QdN,QdN]
    have:(edN (flen x k+1) (dD x n)).w≤(edN (flen y k+1) (dD y j)).w:=by
     show (dD x n).N≤(dD y j).N
     rw[eD,eDx];exact d4
    omega
   ·rcases mem_cons.1 he' with rfl | he'
    ·exact⟨n,hnl,eK,trivial,rfl⟩
    ·exact f3 e' he'
 obtain⟨fs,f1,f2,f3⟩:=key es i i h1 h3
 exact⟨i,fs,f1,by omega,f3⟩
/-- What can be kept, can be with wider numbers. -/
theorem WidR.base (hx:QP x=[]) (hy:QP y=[]) (hb:Qc1 x=true):Qc1 y=true:=by
 have sx:=Qh8 hx
 have sy:=Qh8 hy
 unfold Qc1 at hb ⊢
 rw[Qro] at hb ⊢
 rw[Qh5 (show ∀z∈QeE x,VL z x.Kinds.length from sx.lim) sx.refP] at hb
 rw[Qh5 (show ∀z∈QeE y,VL z y.Kinds.length from sy.lim) sy.refP,h.len,h.refs]
 obtain⟨v,hv⟩:=hb
 refine⟨v,hv.len,hv.num,fun b hbm=>?_,hv.ref,fun k k0 k1 hE=>hv.emp k k0 k1 ?_⟩
 ·obtain⟨a,ha,w1,w2,w3,w4,w5⟩:=h.limits.2 b hbm
  have hk:=hv.keep a ha
  have hA:=sx.lim a ha
  unfold Qe0 bndS at hk ⊢
  rw[w1,w2,w3]
  have hB:¬a.B<0→0≤nth v a.B:=fun h0=>(hv.num _ (Qb8 (by omega) (by rw[hv.len];exact hA.b1))).1
  cases hL:a.Least with
  | true=>
   have hm:=w4 hL
   rw[hL] at hk
   simp only[if_true] at hk ⊢
   have hk:=of_decide_eq_true hk
   refine decide_eq_true ?_
   by_cases h0:a.B<0
   ·rw[if_pos h0] at hk ⊢;omega
   ·rw[if_neg h0] at hk ⊢
    have:=Int.mul_le_mul_of_nonneg_right hm (hB h0)
    omega
  | false=>
   have hm:=w5 hL
   rw[hL] at hk
   simp only[Bool.false_eq_true,if_false] at hk ⊢
   have hk:=of_decide_eq_true hk
   refine decide_eq_true ?_
   by_cases h0:a.B<0
   ·rw[if_pos h0] at hk ⊢;omega
   ·rw[if_neg h0] at hk ⊢
    have:=Int.mul_le_mul_of_nonneg_right hm (hB h0)
    omega
 ·have e1:=(QiM hy k0 (by rw[h.len];exact k1) (fun _=>true)).1
  have e2:=(QiM hx k0 k1 (fun _=>true)).1
  have hne:cycN y k (fun _=>true)≠[]:=fun e=>by rw[e] at hE;cases hE
  have hneg:=h.neg hx hy k0 k1 ((e1.1 hne).mono fun _ _ _=>trivial)
  have:=e2.2 (hneg.mono fun _ _ _=>rfl)
  cases hc:cycN x k fun _=>true with
  | nil=>exact absurd hc this
  | cons a l=>rfl
end
/-- If no kind has to have records, everything can be kept. -/
theorem Qu5 {x:Qa} (hc:QP x=[]) (h0:∀k∈x.Kinds,k.Lo=0):Qc1 x=true:=by
 have sx:=Qh8 hc
 have hv:=Qal hc
 unfold Qc1
 rw[Qro,Qh5 (show ∀z∈QeE x,VL z x.Kinds.length from sx.lim) sx.refP]
 have hz:∀i:Int,nth (replicate x.Kinds.length 0) i=0:=fun i=>by
  unfold nth
  rw[getD_eq_getElem?_getD,getElem?_replicate]
  split<;>rfl
 refine⟨replicate x.Kinds.length 0,by simp,fun z hz=>by rw[(mem_replicate.1 hz).2];omega,fun y hy=>?_,fun a b _ hp=>by rw[hz] at hp;omega,fun k _ _ _=>hz k⟩
 have hVL:=sx.lim y hy
 have:=hVL.m0
 have hmul:y.Least=true→y.B<0→y.Mul=0:=fun hL hB=>by
  unfold QeE limL at hy
  obtain⟨i,hi,hy⟩:=mem_flatMap.1 hy
  have hi:=mem_range.1 hi
  unfold kndL at hy
  rw[getElem?_eq_getElem hi] at hy
  dsimp only at hy
  rcases mem_append.1 hy with hy | hy
  ·simp only[Qe1,mem_cons,not_mem_nil,or_false] at hy
   rcases hy with rfl | rfl
   ·exact h0 _ (getElem_mem hi)
   ·cases hL
  ·exfalso
   obtain⟨j,hj,hy⟩:=mem_flatMap.1 hy
   have hj:=mem_range.1 hj
   unfold fldL at hy
   rw[getElem?_eq_getElem hj] at hy
   dsimp only at hy
   split at hy
   ·next hk=>
    have hr:=Qk9 hc hi hj (by simpa using hk)
    simp only[Qe1,mem_cons,not_mem_nil,or_false] at hy
    rcases hy with rfl | rfl
    ·dsimp only at hB;omega
    ·cases hL
   ·cases hy
 unfold Qe0 bndS
 rw[hz]
 cases hL:y.Least with
 | true=>
  simp only[if_true]
  refine decide_eq_true ?_
  by_cases hB:y.B<0
  ·rw[if_pos hB,hmul hL hB];omega
  ·rw[if_neg hB,hz];omega
 | false=>
  simp only[Bool.false_eq_true,if_false]
  refine decide_eq_true ?_
  by_cases hB:y.B<0
  ·rw[if_pos hB];omega
  ·rw[if_neg hB,hz];omega
end Go.Proofs.YtlajingmjmnfgaaGreatDoor
namespace Go.Proofs.YtlajingmjmnfgaaGreatDoor
open Go.Sim
theorem FR.self {B:Int} {f g:Qb} (h:FR B f g):FR B g g:=
 ⟨rfl,rfl,rfl,rfl,rfl,rfl,fun e=>h.ref (h.kind.symm.trans e),fun e=>h.num (by rw[h.kind] at e;exact e),fun _ _ _=>rfl⟩
theorem FR.mono {B C:Int} (hBC:B≤C) {f g:Qb} (h:FR B f g):FR C f g:=
 ⟨h.name,h.of,h.up,h.kind,h.words,h.weights,fun e=>by have:=h.ref e;omega,h.num,h.same⟩
theorem FsR.self {B:Int} {a b:List Qb} (h:FsR B a b):FsR B b b:=⟨rfl,fun j g hg=>by
 obtain⟨f,_,hr⟩:=h.back (mem_of_getElem? hg)
 exact⟨g,hg,hr.self⟩⟩
theorem FsR.mono {B C:Int} (hBC:B≤C) {a b:List Qb} (h:FsR B a b):FsR C a b:=⟨h.1,fun j f hf=>by
 obtain⟨g,hg,hr⟩:=h.2 j f hf
 exact⟨g,hg,hr.mono hBC⟩⟩
theorem KR.self {B:Int} {k q:Qe} (h:KR B k q):KR B q q:=⟨rfl,h.span,h.fields.self⟩
theorem KR.mono {B C:Int} (hBC:B≤C) {k q:Qe} (h:KR B k q):KR C k q:=⟨h.name,by have:=h.span;omega,h.fields.mono hBC⟩
/-- Each kind of x is within the numbers of Tight. -/
theorem NumR.kindSelf {B:Int} {w x:Qa} (h:NumR B w x):∀k∈x.Kinds,KR B k k:=fun k hk=>by
 obtain⟨q,_,hr⟩:=h.kinds.back hk
 exact hr.self
theorem Qzi {x:Qa} (hK:∀k∈x.Kinds,KR 8 k k) (hn:∀r∈x.Rules,-1048576≤r.N∧r.N≤1048576) (hl:x.Kinds.length≤1000):
  Ok (Qo (fun (s13:Int×List Qe)=>((if (decide (s13.1<(s13.2.length:Int)))=true then (idx s13.2 s13.1).bind fun t48=>(setAt s13.2 s13.1 { t48 with Lo:=(0:Int) }).bind fun t48s=>(some (.inl ((i64.wrap (s13.1+(1:Int))),t48s))) else (some (.inr s13.2))):Option ((Int×List Qe)⊕((List Qe))))) ((0:Int),x.Kinds)) (fun p=>NumR 8 x (Qa.mk x.Version p x.Lives x.Rules)∧∀k∈p,k.Lo=0):=by
 refine Ok.loop (fun m s=>∃i:Nat,s.1=(i:Int)∧i+m=x.Kinds.length∧Part (fun k q=>KR 8 k q∧q.Lo=0) x.Kinds s.2 i) x.Kinds.length ⟨0,rfl,by omega,Part.zero _ _⟩ fun m s ⟨i,hi,him,hP⟩=>?_
 obtain⟨s1,L⟩:=s
 dsimp only at hi hP ⊢
 subst hi
 refine Ok.ite (fun h=>?_) (fun h=>?_)
 ·have hiL:i<L.length:=by simpa using h
  obtain⟨k,hk1,hk2⟩:=hP.at hiL
  have hk:=hK k (mem_of_getElem? hk1)
  rw[QaU,hk2]
  simp only[Option.bind_some]
  rw[QbL hiL]
  simp only[Option.bind_some]
  exact Ok.mk ⟨m - 1,by have:=hP.1;omega,i+1,QK (n:=x.Kinds.length) (by have:=hP.1;omega) (by omega),by have:=hP.1;omega,hP.step hk1 ⟨⟨rfl,by have:=hk.span;dsimp only;omega,hk.fields⟩,rfl⟩⟩
 ·have hiL:¬i<L.length:=by simpa using h
  obtain⟨q1,q2⟩:=hP.full (by have:=hP.1;omega)
  refine Ok.mk ⟨⟨rfl,rfl,⟨q1,fun j k hk=>?_⟩,Sublist.refl _,hn⟩,fun k hk=>?_⟩
  ·obtain⟨g,hg,hr⟩:=q2 j k hk
   exact⟨g,hg,hr.1⟩
  ·obtain⟨j,hj,rfl⟩:=getElem_of_mem hk
   obtain⟨g,hg,hr⟩:=q2 j _ (getElem?_eq_getElem (show j<x.Kinds.length by rw[←q1];exact hj))
   rw[getElem?_eq_getElem hj] at hg
   obtain rfl:=Option.some.inj hg
   exact hr.2
/-- Fields of which one is wider. -/
structure FsW (a b:List Qb):Prop where
 num:FsR 9 a b
 wide:∀(j:Nat) (f:Qb),a[j]?=some f→∃g,b[j]?=some g∧FW f g
theorem FsW.refl {a:List Qb} (h:FsR 8 a a):FsW a a:=⟨h.mono (by decide),fun _ f hf=>⟨f,hf,FW.refl f⟩⟩
theorem FsW.set {a:List Qb} (h:FsR 8 a a) {j:Nat} {f g:Qb} (hf:a[j]?=some f) (h1:FR 9 f g) (h2:FW f g):FsW a (a.set j g):=by
 have hj:j<a.length:=(List.getElem?_eq_some_iff.1 hf).1
 have get:∀(i:Nat) (e:Qb),a[i]?=some e→(a.set j g)[i]?=some (if i=j then g else e)∧(i=j→e=f):=fun i e he=>by
  rw[getElem?_set]
  by_cases hij:j=i
  ·subst hij
   rw[hf] at he
   rw[if_pos rfl,if_pos hj,if_pos rfl]
   exact⟨rfl,fun _=>(Option.some.inj he).symm⟩
  ·rw[if_neg hij,if_neg (fun h=>hij h.symm)]
   exact⟨he,fun h=>absurd h.symm hij⟩
 refine⟨⟨by simp,fun i e he=>⟨_,(get i e he).1,?_⟩⟩,fun i e he=>⟨_,(get i e he).1,?_⟩⟩
 ·split
  ·next hij=>rw[(get i e he).2 hij];exact h1
  ·obtain⟨e',he',hr⟩:=h.2 i e he
   rw[he] at he'
   obtain rfl:=Option.some.inj he'
   exact hr.mono (by decide)
 ·split
  ·next hij=>rw[(get i e he).2 hij];exact h2
  ·exact FW.refl e
theorem Qrs {a:Int} (h:0≤a):0≤Int.tdiv a 2∧Int.tdiv a 2≤a:=by
 rw[Int.tdiv_eq_ediv_of_nonneg h];omega
theorem QlE (l m:List Int) (a b:Int) (i0:∀x∈l,I64 x) (i1:∀x∈m,I64 x) (i2:I64 a) (i3:I64 b):QcF l m a b=some true:=by
 have key:Ok (QcF l m a b) (fun r=>r=true):=by
  unfold QcF
  rw[Qp4]
  refine (Qsz i0).bind fun x0 hx0=>?_
  have hx0s:=hx0.clean.short
  refine (QwQ hx0s hx0s.few.2 i1).bind fun x hx=>?_
  have hcl:=(hx.genS (by decide) hx0).clean
  have hs:=hcl.short
  have hc:=hcl.clean
  have hk3:=hcl.few
  have hK:=hx.kindSelf
  refine Ok.ite (fun _=>Ok.mk rfl) (fun _=>?_)
  simp only[nil_append,length_nil,Nat.zero_add]
  refine Ok.rm (by omega) ?_
  refine (Qzi hK hx.ns (by omega)).bind fun p ⟨hp1,hp2⟩=>?_
  have hnc:=(hp1.genS (by decide) (hx.genS (by decide) hx0)).clean
  have hw:(whyR (Qa.mk x.Version p x.Lives x.Rules)).2=6∨(whyR (Qa.mk x.Version p x.Lives x.Rules)).2=4:=by
   rcases QhS hnc.clean with⟨_,h⟩ | ⟨_,_,h⟩ | ⟨_,h,_⟩
   ·exact .inr (by rw[h])
   ·exact .inl (by rw[h])
   ·rw[Qu5 hnc.clean hp2] at h;cases h
  rw[Qko hnc.short]
  simp only[Option.bind_some]
  rw[if_neg (by rcases hw with h | h<;>rw[h]<;>decide),Qko hs]
  simp only[Option.bind_some]
  refine Ok.ite (fun _=>Ok.mk rfl) (fun h6=>?_)
  have h6:(whyR x).2=6:=by simpa using h6
  have hx16:nLim x≤16∧Qc1 x=true:=by
   rcases QhS hc with⟨_,h⟩ | ⟨h1,h2,_⟩ | ⟨_,_,h⟩
   ·rw[h] at h6;cases h6
   ·exact⟨h1,h2⟩
   ·rw[h] at h6;cases h6
  refine Ok.rm (by omega) ?_
  have hpos:1≤x.Kinds.length:=(hx.genS (by decide) hx0).pos
  refine Ok.arnd i2 (by omega) fun c c0 c1=>?_
  obtain⟨c,rfl⟩:=Int.eq_ofNat_of_zero_le c0
  have hcl2:c<x.Kinds.length:=by omega
  obtain⟨k,hk⟩:∃k,x.Kinds[c]?=some k:=⟨_,getElem?_eq_getElem hcl2⟩
  have hkr:=hK k (mem_of_getElem? hk)
  have hsp:=hkr.span
  have hF10:k.Fields.length≤1000:=hs.few.2 k (mem_of_getElem? hk)
  obtain⟨d0,d1⟩:=Qrs hsp.1
  simp only[QaU,hk,Option.bind_some]
  rw[QbL hcl2]
  simp only[Option.bind_some,getElem?_set_self hcl2]
  rw[QbL (by simpa using hcl2)]
  simp only[Option.bind_some,List.set_set,getElem?_set_self hcl2]
  rw[w64 (n:=Int.tdiv k.Lo 2) (by omega) (by omega),w64 (n:=k.Hi+1) (by omega) (by omega)]
  refine Ok.rm (by omega) ?_
  refine Ok.arnd i3 (by unfold imax;split<;>omega) fun j j0 j1=>?_
  obtain⟨j,rfl⟩:=Int.eq_ofNat_of_zero_le j0
  refine Ok.bind (P:=fun F:List Qb=>FsW k.Fields F) (Ok.ite (fun hj=>?_) (fun _=>Ok.mk (FsW.refl hkr.fields))) (fun F hF=>?_)
  ·have hj:j<k.Fields.length:=by simpa using hj
   obtain⟨f,hf⟩:∃f,k.Fields[j]?=some f:=⟨_,getElem?_eq_getElem hj⟩
   obtain⟨f',hf',hfr⟩:=hkr.fields.2 j f hf
   rw[hf] at hf'
   obtain rfl:=Option.some.inj hf'
   simp only[QaU,hf,Option.bind_some]
   by_cases h1:f.Kind=1
   ·have hr:=hfr.ref h1
    obtain⟨e0,e1⟩:=Qrs hr.1
    rw[if_pos (by simpa using h1),QbL hj]
    simp only[Option.bind_some,getElem?_set_self hj]
    rw[QbL (by simpa using hj)]
    simp only[Option.bind_some,List.set_set]
    rw[w64 (n:=Int.tdiv f.Lo 2) (by omega) (by omega),w64 (n:=f.Hi+1) (by omega) (by omega),if_neg (by rw[h1];decide)]
    refine Ok.mk (FsW.set hkr.fields hf ⟨rfl,rfl,rfl,rfl,rfl,rfl,fun _=>⟨by dsimp only;omega,by dsimp only;omega,by dsimp only;omega⟩,fun h=>by omega,fun h=>absurd h1 h⟩ ⟨rfl,rfl,rfl,fun _=>⟨by dsimp only;omega,by dsimp only;omega⟩⟩)
   ·rw[if_neg (by simpa using h1)]
    simp only[Option.bind_some]
    by_cases h24:f.Kind=2∨f.Kind=4
    ·have hr:=hfr.num h24
     have w1:i64.wrap (f.Lo - 1)=f.Lo - 1:=w64 (by omega) (by omega)
     have w2:i64.wrap (f.Hi+1)=f.Hi+1:=w64 (by omega) (by omega)
     have m1:-1048576≤imax (f.Lo - 1) (-1048576)∧imax (f.Lo - 1) (-1048576)≤f.Lo:=by unfold imax;split<;>omega
     have m2:f.Hi≤imin (f.Hi+1) 1048576∧imin (f.Hi+1) 1048576≤1048576:=by unfold imin;split<;>omega
     rw[if_pos (by simpa using h24)]
     simp only[hf,Option.bind_some]
     rw[QbL hj]
     simp only[Option.bind_some,getElem?_set_self hj]
     rw[QbL (by simpa using hj)]
     simp only[Option.bind_some,List.set_set]
     rw[w1,w2]
     refine Ok.mk (FsW.set hkr.fields hf ⟨rfl,rfl,rfl,rfl,rfl,rfl,fun h=>absurd h h1,fun _=>⟨by dsimp only;omega,by dsimp only;omega,by dsimp only;omega⟩,fun _ h2 h4=>(h24.elim h2 h4).elim⟩ ⟨rfl,rfl,rfl,fun _=>⟨by dsimp only;omega,by dsimp only;omega⟩⟩)
    ·rw[if_neg (by simpa using h24)]
     simp only[Option.bind_some]
     exact Ok.mk (FsW.refl hkr.fields)
  ·refine Ok.bind (P:=fun R:List Qj=>R.Sublist x.Rules) (Ok.ite (fun hr=>?_) (fun _=>Ok.mk (Sublist.refl _))) (fun R hR=>?_)
   ·have hr:0<x.Rules.length:=by simpa using hr
    have hrl:=hs.rules
    refine Ok.arnd i3 (by omega) fun i i0 i1=>?_
    obtain⟨i,rfl⟩:=Int.eq_ofNat_of_zero_le i0
    have e1:sub x.Rules (0:Int) (i:Int)=some (x.Rules.take i):=by
     unfold sub
     rw[if_pos ⟨by omega,by omega,by omega⟩];simp
    have e2:sub x.Rules (i64.wrap ((i:Int)+1)) (x.Rules.length:Int)=some (x.Rules.drop (i+1)):=by
     rw[QK (n:=x.Rules.length) (by omega) (by omega)]
     unfold sub
     rw[if_pos ⟨by omega,by omega,by omega⟩]
     simp only[Int.toNat_natCast]
     rw[take_of_length_le (by simp)]
    rw[e1]
    simp only[Option.bind_some]
    refine Ok.rm (by simp;omega) ?_
    rw[e2]
    simp only[Option.bind_some]
    refine Ok.rm (by simp;omega) (Ok.mk ?_)
    rw[←eraseIdx_eq_take_drop_succ]
    exact eraseIdx_sublist ..
   ·obtain⟨q,hq⟩:∃q,Qe.mk k.Name (Int.tdiv k.Lo 2) (k.Hi+1) F=q:=⟨_,rfl⟩
    obtain⟨y,hy⟩:∃y,Qa.mk x.Version (x.Kinds.set c q) x.Lives R=y:=⟨_,rfl⟩
    have get:∀(i:Nat) (e:Qe),x.Kinds[i]?=some e→(x.Kinds.set c q)[i]?=some (if i=c then q else e)∧(i=c→e=k):=fun i e he=>by
     rw[getElem?_set]
     by_cases hij:c=i
     ·subst hij
      rw[hk] at he
      rw[if_pos rfl,if_pos hcl2,if_pos rfl]
      exact⟨rfl,fun _=>(Option.some.inj he).symm⟩
     ·rw[if_neg hij,if_neg (fun h=>hij h.symm)]
      exact⟨he,fun h=>absurd h.symm hij⟩
    have hkq:KR 9 k q∧KW k q:=by
     subst hq
     exact⟨⟨rfl,by dsimp only;omega,hF.num⟩,⟨rfl,⟨by dsimp only;omega,by dsimp only;omega⟩,hF.num.1,hF.wide⟩⟩
    have hN:NumR 9 x y:=by
     subst hy
     refine⟨rfl,rfl,⟨by simp,fun i e he=>⟨_,(get i e he).1,?_⟩⟩,hR.map rkey,fun r hr=>hx.ns r (hR.subset hr)⟩
     split
     ·next hij=>rw[(get i e he).2 hij];exact hkq.1
     ·exact (hK e (mem_of_getElem? he)).mono (by decide)
    have hW:WidR x y:=by
     subst hy
     refine⟨by simp,fun i e he=>⟨_,(get i e he).1,?_⟩,fun r hr=>hR.subset hr⟩
     split
     ·next hij=>rw[(get i e he).2 hij];exact hkq.2
     ·exact KW.refl e
    have hyc:=(hN.genS (by decide) (hx.genS (by decide) hx0)).clean
    have hyb:=hW.base hc hyc.clean hx16.2
    have hy6:whyR y=([],6):=by
     have h1:=hW.limits.1
     rcases QhS hyc.clean with⟨h,_⟩ | ⟨_,_,h⟩ | ⟨_,h,_⟩
     ·omega
     ·exact h
     ·rw[hyb] at h;cases h
    have e3:Qa.mk x.Version (x.Kinds.set ((c:Nat):Int).toNat (Qe.mk k.Name (Int.tdiv k.Lo 2) (k.Hi+1) F)) x.Lives R=y:=by
     rw[←hy,←hq,Int.toNat_natCast]
    rw[Int.toNat_natCast] at e3 ⊢
    rw[List.set_set,e3,Qko hyc.short,hy6]
    exact Ok.mk rfl
 obtain⟨r,hr,rfl⟩:=key
 exact hr
end Go.Proofs.YtlajingmjmnfgaaGreatDoor

/- CountsLimits: the limits of a schema, both ways, and the plain law. No condition. -/
import Derived.Test.YtcdccjagknlmpaaGreatDoorTyZB
import Derived.Test.YtcdccjagknlmpaaGreatDoorTyJ
import Derived.Test.YtcdccjagknlmpaaGreatDoorEvalA
import Derived.Test.YtcdccjagknlmpaaGreatDoorCtA
namespace Go.Proofs.YtcdccjagknlmpaaGreatDoor
open Go.Sim

/-- A loop that collects twice. -/
theorem QmH {β γ:Type} (n:Nat) (g:Nat→List β) (h:Nat→List γ) (B:Nat) (hB:∀k,k<n→(g k).length≤B∧(h k).length≤B) (a0:List β) (b0:List γ) {body:Int×List β×List γ→Option ((Int×List β×List γ)⊕(List β×List γ))}
  (hs:∀k,k<n→∀(p:List β) (q:List γ),p.length≤a0.length+k * B→q.length≤b0.length+k * B→body ((k:Int),p,q)=some (.inl (((k+1:Nat):Int),p++g k,q++ h k))) (he:∀p q,body ((n:Int),p,q)=some (.inr (p,q))):
  QG body ((0:Int),a0,b0)=some (a0++(List.range n).flatMap g,b0++(List.range n).flatMap h):=by
 have hlen:∀m,m≤n→((List.range m).flatMap g).length≤m * B∧((List.range m).flatMap h).length≤m * B:=fun m hm=>
  ⟨QdY m g B fun k hk=>(hB k (by omega)).1,QdY m h B fun k hk=>(hB k (by omega)).2⟩
 have key:=QjM (body:=body) n (fun m=>((m:Int),a0++(List.range m).flatMap g,b0++(List.range m).flatMap h)) (a0++(List.range n).flatMap g,b0++(List.range n).flatMap h) (fun k hk=>?_) ?_
 ·simpa using key
 ·have:=hlen k (by omega)
  rw[hs k hk _ _ (by rw[List.length_append];omega) (by rw[List.length_append];omega),List.range_succ,List.flatMap_append,List.flatMap_append]
  simp
 ·rw[he]

def leastT:Str:=[32,108,101,97,115,116]
def mostT:Str:=[32,109,111,115,116]
section
variable {τ:Type} (mk:Int→Int→Int→Bool→τ)
def Qif (i j lo hi:Int):List τ:=[mk i j lo true,mk i j hi false]
def fldL (x:Qg) (i:Nat) (q:Qj) (j:Nat):List τ:=match q.Fields[j]? with | some f=>if (f.Kind==1)=true then Qif mk (i:Int) (Q4 x f.Of) f.Lo f.Hi else [] | none=>[]
def kndL (x:Qg) (i:Nat):List τ:=match x.Kinds[i]? with | some q=>Qif mk (i:Int) (-1) q.Lo q.Hi++(List.range q.Fields.length).flatMap (fldL mk x i q) | none=>[]
def limL (x:Qg):List τ:=(List.range x.Kinds.length).flatMap (kndL mk x)
end
def QjT (s:Str):List Str:=[s++leastT,s++mostT]
def fldN (q:Qj) (j:Nat):List Str:=match q.Fields[j]? with | some f=>if (f.Kind==1)=true then QjT ((q.Name++[46])++f.Name) else [] | none=>[]
def kndN (x:Qg) (i:Nat):List Str:=match x.Kinds[i]? with | some q=>QjT q.Name++(List.range q.Fields.length).flatMap (fldN q) | none=>[]
def namL (x:Qg):List Str:=(List.range x.Kinds.length).flatMap (kndN x)
theorem QnT {τ:Type} (mk:Int→Int→Int→Bool→τ) (x:Qg) (i:Nat) (q:Qj) (j:Nat):(fldL mk x i q j).length≤2∧(fldN q j).length≤2:=by
 unfold fldL fldN
 cases q.Fields[j]? with
 | none=>simp
 | some f=>dsimp only;constructor<;>split<;>simp[Qif,QjT]
theorem QkI {τ:Type} (mk:Int→Int→Int→Bool→τ) {x:Qg} (hv:QlW x) (i:Nat):(kndL mk x i).length≤22∧(kndN x i).length≤22:=by
 unfold kndL kndN
 cases hq:x.Kinds[i]? with
 | none=>simp
 | some q=>
  have hf:=(Qi0 (hv.kind q (List.mem_of_getElem? hq))).2.1
  have h1:=QdY q.Fields.length (fldL mk x i q) 2 fun j _=>(QnT mk x i q j).1
  have h2:=QdY q.Fields.length (fldN q) 2 fun j _=>(QnT mk x i q j).2
  simp only[List.length_append,Qif,QjT,List.length_cons,List.length_nil]
  omega

theorem QrC {x:Qg} {p:Qt} (h:p∈QcT x):p.Code≠0:=by
 have hp:∀{k j r e:Int},p∈prob k j r e→p.Code≠0:=fun {k j r e} h=>by
  unfold prob at h
  split at h
  ·cases h
  ·rw[List.mem_singleton.1 h];assumption
 unfold QcT at h
 split at h
 ·simp only[List.mem_append] at h
  rcases h with (h | h) | h
  ·obtain⟨i,_,h⟩:=List.mem_flatMap.1 h
   unfold Qha at h
   split at h
   ·exact hp h
   ·cases h
  ·obtain⟨i,_,h⟩:=List.mem_flatMap.1 h
   unfold Qhb at h
   split at h
   ·rcases List.mem_append.1 h with h | h
    ·exact hp h
    ·obtain⟨j,_,h⟩:=List.mem_flatMap.1 h
     unfold Qh7 at h
     split at h
     ·exact hp h
     ·cases h
   ·cases h
  ·obtain⟨i,_,h⟩:=List.mem_flatMap.1 h
   unfold Qlh at h
   split at h
   ·exact hp h
   ·cases h
 ·rw[List.mem_singleton.1 h];assumption
theorem QgZ {x:Qg} (h:QcT x=[]):QlW x:=by
 unfold QcT at h
 by_cases hv:QgO x=0
 ·unfold QgO at hv
  by_cases hs:Qh6 x=true
  ·exact Qlg hs
  ·rw[if_neg hs] at hv;cases hv
 ·rw[if_neg hv] at h;cases h
theorem Qqy {q:Qj} (h:Qd7 q=true):q.Name.length≤12:=by
 simp only[Qd7,Bool.and_eq_true] at h
 exact Qb2 h.1.1.1
theorem Qpw {f:Qb} (h:QaX f=true):f.Name.length≤12:=by
 simp only[QaX,Bool.and_eq_true] at h
 exact Qb2 h.1.1
theorem Qh9 {n:Nat} (h:n≤1000000):cat n=some ():=by unfold cat;rw[if_pos (by omega)]
theorem add13 {s:Str} {a b lo hi:Int} {c0:List Qh} {c1:List Str} (hs:s.length≤1000) (h0:c0.length≤1000000) (h1:c1.length≤1000000):
  Qcl s a b lo hi c0 c1=some (c0++Qif Qh.mk a b lo hi,c1++QjT s):=by
 unfold Qcl
 rw[Qg8 (by simp;omega),Qh9 (by simp;omega),Qh9 (by simp;omega),Qg8 (by simp;omega)]
 rfl
theorem Qvg {x:Qg} (h:Qkt x):Qee x=some (match QcT x with | []=>0 | p::_=>p.Code):=by
 unfold Qee
 rw[Qu8 h]
 simp only[Option.bind_some]
 cases QcT x with
 | nil=>rfl
 | cons p l=>
  rw[if_pos (by simp)]
  rfl
noncomputable def limR {τ:Type} (mk:Int→Int→Int→Bool→τ) (x:Qg):List τ×List Str×Int:=match QcT x with | []=>(limL mk x,namL x,0) | p::_=>([],[],p.Code)
theorem Qqz {x:Qg} (h:Qkt x):Qb1 x=some (limR Qh.mk x):=by
 unfold Qb1 limR
 rw[Qvg h]
 simp only[Option.bind_some]
 cases hc:QcT x with
 | cons p l=>
  have:=QrC (x:=x) (p:=p) (by rw[hc];exact List.mem_cons_self ..)
  dsimp only
  rw[if_pos (by simpa using this)]
 | nil=>
  have hv:=QgZ hc
  have hk:=hv.kinds
  dsimp only
  rw[if_neg (by simp)]
  refine (congrArg (Option.bind · _) (QmH x.Kinds.length (kndN x) (kndL Qh.mk x) 22 (fun i _=>⟨(QkI Qh.mk hv i).2,(QkI Qh.mk hv i).1⟩) [] [] (fun i hi p q hp hq=>?_) (fun p q=>by rw[if_neg (by simp)]))).trans ?_
  ·simp only[List.length_nil,Nat.zero_add] at hp hq
   have hib:i * 22≤132:=by omega
   rw[if_pos (by simpa using hi),Qaa hi]
   have hK:=hv.kind _ (List.getElem_mem hi)
   have hf10:=(Qi0 hK).2.1
   have hnm:=Qqy hK
   simp only[Option.bind_some]
   rw[add13 (by omega) (by omega) (by omega)]
   simp only[Option.bind_some]
   rw[QmH x.Kinds[i].Fields.length (fldL Qh.mk x i x.Kinds[i]) (fldN x.Kinds[i]) 2 (fun j _=>QnT _ _ _ _ _) _ _ (fun j hj p' q' hp' hq'=>?_) (fun p' q'=>by rw[if_neg (by simp)])]
   ·simp only[Option.bind_some]
    have e1:kndL Qh.mk x i=Qif Qh.mk (i:Int) (-1) x.Kinds[i].Lo x.Kinds[i].Hi++(List.range x.Kinds[i].Fields.length).flatMap (fldL Qh.mk x i x.Kinds[i]):=by unfold kndL;rw[List.getElem?_eq_getElem hi]
    have e2:kndN x i=QjT x.Kinds[i].Name++(List.range x.Kinds[i].Fields.length).flatMap (fldN x.Kinds[i]):=by unfold kndN;rw[List.getElem?_eq_getElem hi]
    rw[e1,e2,Q1 hi (by omega),List.append_assoc,List.append_assoc]
   ·simp only[List.length_append,Qif,QjT,List.length_cons,List.length_nil] at hp' hq'
    have hfn:=Qpw ((Qi0 hK).2.2 _ (List.getElem_mem hj))
    rw[if_pos (by simpa using hj),Qaa hj]
    simp only[Option.bind_some]
    have e1:fldL Qh.mk x i x.Kinds[i] j=if (x.Kinds[i].Fields[j].Kind==1)=true then Qif Qh.mk (i:Int) (Q4 x x.Kinds[i].Fields[j].Of) x.Kinds[i].Fields[j].Lo x.Kinds[i].Fields[j].Hi else []:=by unfold fldL;rw[List.getElem?_eq_getElem hj]
    have e2:fldN x.Kinds[i] j=if (x.Kinds[i].Fields[j].Kind==1)=true then QjT ((x.Kinds[i].Name++[46])++x.Kinds[i].Fields[j].Name) else []:=by unfold fldN;rw[List.getElem?_eq_getElem hj]
    rw[e1,e2,Q1 hj (by omega)]
    cases (x.Kinds[i].Fields[j].Kind==1) with
    | false=>simp
    | true=>
     rw[if_pos rfl,if_pos rfl,if_pos rfl,Qh9 (by simp;omega),Qh9 (by simp;omega),QeG (by omega)]
     simp only[Option.bind_some]
     rw[add13 (by simp;omega) (by omega) (by omega)]
     rfl
  ·rfl
theorem Qpx {x:Qg} (h:Qkt x):Qfk x=some (limR QD.mk x):=by
 unfold Qfk limR
 rw[Quh h]
 simp only[Option.bind_some]
 cases hc:QcT x with
 | cons p l=>
  rw[if_pos (by simp)]
  rfl
 | nil=>
  have hv:=QgZ hc
  have hk:=hv.kinds
  rw[if_neg (by simp)]
  refine (congrArg (Option.bind · _) (QmH x.Kinds.length (kndN x) (kndL QD.mk x) 22 (fun i _=>⟨(QkI QD.mk hv i).2,(QkI QD.mk hv i).1⟩) [] [] (fun i hi p q hp hq=>?_) (fun p q=>by rw[if_neg (by simp)]))).trans ?_
  ·simp only[List.length_nil,Nat.zero_add] at hp hq
   have hib:i * 22≤132:=by omega
   rw[if_pos (by simpa using hi),Qaa hi]
   have hK:=hv.kind _ (List.getElem_mem hi)
   have hf10:=(Qi0 hK).2.1
   have hnm:=Qqy hK
   simp only[Option.bind_some]
   rw[Qg8 (by simp;omega),Qh9 (by simp;omega),Qh9 (by simp;omega),Qg8 (by simp;omega)]
   simp only[Option.bind_some]
   rw[QmH x.Kinds[i].Fields.length (fldL QD.mk x i x.Kinds[i]) (fldN x.Kinds[i]) 2 (fun j _=>QnT _ _ _ _ _) _ _ (fun j hj p' q' hp' hq'=>?_) (fun p' q'=>by rw[if_neg (by simp)])]
   ·simp only[Option.bind_some]
    have e1:kndL QD.mk x i=Qif QD.mk (i:Int) (-1) x.Kinds[i].Lo x.Kinds[i].Hi++(List.range x.Kinds[i].Fields.length).flatMap (fldL QD.mk x i x.Kinds[i]):=by unfold kndL;rw[List.getElem?_eq_getElem hi]
    have e2:kndN x i=QjT x.Kinds[i].Name++(List.range x.Kinds[i].Fields.length).flatMap (fldN x.Kinds[i]):=by unfold kndN;rw[List.getElem?_eq_getElem hi]
    rw[e1,e2,Q1 hi (by omega),List.append_assoc,List.append_assoc]
    rfl
   ·simp only[List.length_append,List.length_cons,List.length_nil] at hp' hq'
    have hfn:=Qpw ((Qi0 hK).2.2 _ (List.getElem_mem hj))
    rw[if_pos (by simpa using hj),Qaa hj]
    simp only[Option.bind_some]
    have e1:fldL QD.mk x i x.Kinds[i] j=if (x.Kinds[i].Fields[j].Kind==1)=true then Qif QD.mk (i:Int) (Q4 x x.Kinds[i].Fields[j].Of) x.Kinds[i].Fields[j].Lo x.Kinds[i].Fields[j].Hi else []:=by unfold fldL;rw[List.getElem?_eq_getElem hj]
    have e2:fldN x.Kinds[i] j=if (x.Kinds[i].Fields[j].Kind==1)=true then QjT ((x.Kinds[i].Name++[46])++x.Kinds[i].Fields[j].Name) else []:=by unfold fldN;rw[List.getElem?_eq_getElem hj]
    rw[e1,e2,Q1 hj (by omega)]
    cases (x.Kinds[i].Fields[j].Kind==1) with
    | false=>simp
    | true=>
     rw[if_pos rfl,if_pos rfl,if_pos rfl,Qfn (by omega)]
     simp only[Option.bind_some]
     rw[Qg8 (by simp;omega),Qh9 (by simp;omega),Qh9 (by simp;omega),Qh9 (by simp;omega),Qh9 (by simp;omega),Qg8 (by simp;omega)]
     rfl
  ·rfl

def Qxf (l:Qh):QD:=⟨l.A,l.B,l.Mul,l.Least⟩
theorem Qxg (x:Qg):(limL Qh.mk x).map Qxf=limL QD.mk x:=by
 unfold limL
 rw[List.map_flatMap]
 congr 1
 funext i
 unfold kndL
 cases x.Kinds[i]? with
 | none=>rfl
 | some q=>
  dsimp only
  rw[List.map_append,List.map_flatMap]
  congr 1
  congr 1
  funext j
  unfold fldL
  cases q.Fields[j]? with
  | none=>rfl
  | some f=>dsimp only;split<;>rfl
theorem QrD {τ:Type} (mk:Int→Int→Int→Bool→τ) (x:Qg):(limR mk x).1.length≤1000∧(limR mk x).2.1.length≤1000:=by
 unfold limR
 cases hc:QcT x with
 | cons p l=>simp
 | nil=>
  have hv:=QgZ hc
  have hk:=hv.kinds
  have h1:=QdY x.Kinds.length (kndL mk x) 22 fun i _=>(QkI mk hv i).1
  have h2:=QdY x.Kinds.length (kndN x) 22 fun i _=>(QkI mk hv i).2
  refine⟨?_,?_⟩
  ·show (limL mk x).length≤_;unfold limL;omega
  ·show (namL x).length≤_;unfold namL;omega
end Go.Proofs.YtcdccjagknlmpaaGreatDoor

namespace Go.Proofs.YtcdccjagknlmpaaGreatDoor
open Go.Sim

theorem Qvh {k j r e:Int} (h:prob k j r e=[]):e=0:=by
 unfold prob at h
 split at h
 ·assumption
 ·cases h
theorem clean {x:Qg} (hc:QcT x=[]) {k j:Int} {q:Qj} {f:Qb} (hq:idx x.Kinds k=some q) (hf:field? x k j=some f):QjR x q k j f=0:=by
 obtain⟨q',hk,hj,hq',hqf,_,hkl,hjl⟩:=Qct hf
 rw[hq] at hq';cases hq'
 obtain⟨i,rfl⟩:=Int.eq_ofNat_of_zero_le hk
 obtain⟨n,rfl⟩:=Int.eq_ofNat_of_zero_le hj
 rw[QlS] at hq hqf
 unfold QcT at hc
 split at hc
 ·simp only[List.append_eq_nil_iff] at hc
  have h1:=hc.1.2
  unfold Qhw at h1
  rw[List.flatMap_eq_nil_iff] at h1
  have h2:=h1 i (List.mem_range.2 (by omega))
  unfold Qhb at h2
  rw[hq] at h2
  dsimp only at h2
  rw[List.append_eq_nil_iff] at h2
  have h3:=h2.2
  unfold QlX at h3
  rw[List.flatMap_eq_nil_iff] at h3
  have h4:=h3 n (List.mem_range.2 (by omega))
  unfold Qh7 at h4
  rw[hqf] at h4
  have h5:=Qvh h4
  unfold Qnz at h5
  split at h5
  ·cases h5
  ·exact h5
 ·cases hc
theorem QmI {a:Bool} {c:Int} {r:List Qy} (h:Qbk (⟨a,c⟩::r)=0) (hc:c≠0):a=false∧Qbk r=0:=by
 unfold Qbk at h
 cases a with
 | true=>exact (hc h).elim
 | false=>exact⟨rfl,h⟩
theorem Qvi {x:Qg} {q:Qj} {k j:Int} {f:Qb} (h:QjR x q k j f=0) (hk:f.Kind=1∨f.Kind=7∨f.Kind=8):0≤upIx x k j:=by
 unfold QjR at h
 rcases hk with hk | hk | hk
 ·rw[if_neg (by omega),if_pos hk] at h
  have:=(QmI h (by decide)).1
  simpa using this
 ·rw[if_neg (by omega),if_neg (by omega),if_neg (by omega),if_neg (by omega),if_neg (by omega),if_pos hk] at h
  have:=(QmI h (by decide)).1
  simpa using this
 ·rw[if_neg (by omega),if_neg (by omega),if_neg (by omega),if_neg (by omega),if_neg (by omega),if_neg (by omega),if_pos hk] at h
  have:=(QmI h (by decide)).1
  simpa using this
end Go.Proofs.YtcdccjagknlmpaaGreatDoor

namespace Go.Proofs.YtcdccjagknlmpaaGreatDoor
open Go.Sim

theorem Qsm {i j lo hi n:Int} {y:Qh} (h:y∈Qif Qh.mk i j lo hi) (h0:0≤i) (h1:i<n) (j0:-1≤j) (j1:j<i) (hl:0≤lo∧lo≤hi∧hi≤65536):VL y n∧y.B<y.A:=by
 simp only[Qif,List.mem_cons,List.not_mem_nil,or_false] at h
 rcases h with rfl | rfl
 ·exact⟨⟨h0,h1,j0,by dsimp only;omega,hl.1,by dsimp only;omega⟩,j1⟩
 ·exact⟨⟨h0,h1,j0,by dsimp only;omega,by dsimp only;omega,hl.2.2⟩,j1⟩
theorem QrQ {x:Qg} (hc:QcT x=[]) {i j:Nat} (hi:i<x.Kinds.length) (hj:j<x.Kinds[i].Fields.length) (hk:x.Kinds[i].Fields[j].Kind=1):0≤Q4 x x.Kinds[i].Fields[j].Of∧Q4 x x.Kinds[i].Fields[j].Of<(i:Int):=by
 have hf:field? x (i:Int) (j:Int)=some x.Kinds[i].Fields[j]:=by
  unfold field?
  rw[if_pos ⟨by omega,by omega⟩,Int.toNat_natCast,Int.toNat_natCast,List.getElem?_eq_getElem hi,Option.bind_some,List.getElem?_eq_getElem hj]
 have h:=Qvi (clean hc (Qaa hi) hf) (.inl hk)
 unfold upIx at h
 rw[hf] at h
 dsimp only at h
 rw[if_neg (by omega),if_pos hk] at h
 unfold QiW at h
 split at h
 ·exact⟨h,by assumption⟩
 ·omega
theorem QqA {x:Qg} (hc:QcT x=[]):∀y∈limL Qh.mk x,VL y (x.Kinds.length:Int)∧y.B<y.A:=by
 intro y hy
 have hv:=QgZ hc
 unfold limL at hy
 obtain⟨i,hi,hy⟩:=List.mem_flatMap.1 hy
 rw[List.mem_range] at hi
 have hK:=hv.kind _ (List.getElem_mem hi)
 unfold kndL at hy
 rw[List.getElem?_eq_getElem hi] at hy
 dsimp only at hy
 rcases List.mem_append.1 hy with hy | hy
 ·have hs:=hK
  simp only[Qd7,Bool.and_eq_true] at hs
  exact Qsm hy (by omega) (by omega) (Int.le_refl _) (by omega) (Qdt hs.1.1.2)
 ·obtain⟨j,hj,hy⟩:=List.mem_flatMap.1 hy
  rw[List.mem_range] at hj
  unfold fldL at hy
  rw[List.getElem?_eq_getElem hj] at hy
  dsimp only at hy
  by_cases hk:x.Kinds[i].Fields[j].Kind=1
  ·rw[if_pos (by simpa using hk)] at hy
   obtain⟨r0,r1⟩:=QrQ hc hi hj hk
   have hF:=(Qi0 hK).2.2 _ (List.getElem_mem hj)
   simp only[QaX,Bool.and_eq_true] at hF
   have hp:=hF.2
   unfold Qgk at hp
   rw[if_neg (by omega),if_pos hk,Bool.and_eq_true] at hp
   exact Qsm hy (by omega) (by omega) (by omega) r1 (Qdt hp.2)
  ·rw[if_neg (by simpa using hk)] at hy
   cases hy
/-- What Plan gives for a schema without problems. -/
theorem Qxh {x:Qg} (hs:Qkt x) (hc:QcT x=[]) {want:List Int} (hw:want.length≤1000000):Qa9 x want=some (Qmy x (limL Qh.mk x) want):=by
 have hv:=QgZ hc
 have hl:Qb1 x=some (limL Qh.mk x,namL x,0):=by
  rw[Qqz hs]
  unfold limR
  rw[hc]
 have hn:=(QrD Qh.mk x).1
 unfold limR at hn
 rw[hc] at hn
 dsimp only at hn
 refine Qw0 hl hv.kinds (fun k hk=>?_) (fun y hy=>(QqA hc y hy).1) (by omega) hw
 have h:=hv.kind k hk
 simp only[Qd7,Bool.and_eq_true] at h
 exact Qdt h.1.1.2

end Go.Proofs.YtcdccjagknlmpaaGreatDoor

namespace Go.Proofs.YtcdccjagknlmpaaGreatDoor
open Go.Sim

structure CleanS (x:Qg):Prop where
  short:Qkt x
  clean:QcT x=[]
  few:x.Kinds.length≤3
  narrow:∀k∈x.Kinds,k.Hi - k.Lo≤29
theorem Qoa {a b:List Int} (hl:a.length=b.length) (hn:a.length≤1000) (ha:NumP a) (hb:NumP b):QcI a b=some (dst b a):=by
  unfold QcI
  refine Qef a.length (fun k=>((k:Int),dst b (a.take k))) (dst b a) (by simp[dst]) (fun k hk=>?_) ?_ rfl
  · dsimp only
    have hkb:k<b.length:=by omega
    have h1:=QtL (W:=b) (p:=a.take k) (fun z hz=>ha z (List.mem_of_mem_take hz)) hb
    have h2:=Qnt b (a.take k)
    have hlt:(a.take k).length=k:=by rw[List.length_take];omega
    rw[hlt] at h1
    have a1:=ha _ (List.getElem_mem hk)
    have b1:=hb _ (List.getElem_mem hkb)
    have hf:=Qp1 a1 b1
    have hf0:=QnP a[k] b[k]
    have es:dst b (a.take (k+1))=dst b (a.take k)+farS a[k] b[k]:=by
      rw[List.take_succ_eq_append_getElem hk,Qmw b _ _ (by omega),hlt]
      unfold nth
      rw[Int.toNat_natCast,getD_lt' hkb]
    rw[if_pos (by simp;omega),Qaa hk,Qaa hkb]
    simp only[Option.bind_some]
    rw[w64 (n:=a[k] - b[k]) (by omega) (by omega),w64 (n:=b[k] - a[k]) (by omega) (by omega),es,Q1 hk (by omega)]
    rw[show imax (a[k] - b[k]) (b[k] - a[k])=farS a[k] b[k] from rfl,w64 (by omega) (by omega)]
  · dsimp only
    rw[if_neg (by simp),List.take_length]
theorem QoA:∀(a b:List Int),dst a b=dst b a
  | [],b=>by cases b<;>rfl
  | a::l,[]=>rfl
  | a::l,b::m=>by
    have:=QoA l m
    unfold dst at this ⊢
    rw[List.zipWith_cons_cons,List.zipWith_cons_cons,List.sum_cons,List.sum_cons,this,QtO]
theorem QsX {a:List Int} (ha:a.length≤1000000):QbP a a=some true:=by
  unfold QbP
  rw[if_neg (by simp),Qeg a (fun _=>true) false (fun k hk=>?_) (if_neg (by simp))]
  · rw[if_pos (by simp)]
    rfl
  · rw[if_pos rfl,if_pos (by simpa using hk),Qaa hk]
    simp only[Option.bind_some]
    rw[if_neg (by simp),Q1 hk (by omega)]
end Go.Proofs.YtcdccjagknlmpaaGreatDoor

namespace Go.Proofs.YtcdccjagknlmpaaGreatDoor
open Go.Sim

theorem Qui {a b:List Int} (hl:a.length=b.length) (hn:a.length≤1000000):Qfl a b=some (decide (cmpL a b<0)):=by
 have key:Ok (Qfl a b) (fun r=>r=decide (cmpL a b<0)):=by
  unfold Qfl
  refine Ok.bind (P:=fun e:Unit⊕Bool=>(match e with | .inl _=>false | .inr r=>r)=decide (cmpL a b<0)) (Ok.loop (fun m s=>0≤s∧s+m=a.length∧cmpL (a.drop s.toNat) (b.drop s.toNat)=cmpL a b) a.length ⟨Int.le_refl _,by omega,by simp⟩ fun m s hs=>?_) (fun e he=>?_)
  ·obtain⟨h1,h2,h3⟩:=hs
   obtain⟨k,rfl⟩:=Int.eq_ofNat_of_zero_le h1
   rw[Int.toNat_natCast] at h3
   refine Ok.ite (fun hc=>?_) (fun hc=>?_)
   ·simp only[Bool.and_eq_true,decide_eq_true_eq] at hc
    have hk:k<a.length:=by omega
    have hk2:k<b.length:=by omega
    rw[Qaa hk,Qaa hk2]
    simp only[Option.bind_some]
    rw[List.drop_eq_getElem_cons hk,List.drop_eq_getElem_cons hk2,Qfv] at h3
    refine Ok.ite (fun hne=>Ok.mk ?_) (fun he=>?_)
    ·have hne':a[k]≠b[k]:=by simpa using hne
     dsimp only
     rw[←h3]
     by_cases e1:a[k]<b[k]
     ·rw[if_pos e1,decide_eq_true e1];rfl
     ·rw[if_neg e1,if_pos (by omega),decide_eq_false e1];rfl
    ·have he':a[k]=b[k]:=by simpa using he
     rw[if_neg (by omega),if_neg (by omega)] at h3
     rw[Q1 hk (by omega)]
     exact Ok.mk ⟨m - 1,by omega,by omega,by omega,by rw[Int.toNat_natCast];exact h3⟩
   ·simp only[Bool.and_eq_false_iff,decide_eq_false_iff_not] at hc
    have hk:¬k<a.length:=by omega
    rw[List.drop_eq_nil_of_le (by omega),List.drop_eq_nil_of_le (by omega)] at h3
    refine Ok.mk ?_
    dsimp only
    rw[←h3]
    rfl
  ·cases e with
   | inl u=>exact Ok.mk he
   | inr r=>exact Ok.mk he
 obtain⟨r,hr,rfl⟩:=key
 exact hr
theorem Quj {W a b:List Int} (hW:NumP W) (h6:W.length≤6) (ha:a=[]∨(a.length=W.length∧NumP a)) (hb:b=[]∨(b.length=W.length∧NumP b)):QgM W a b=some (QlU W a b):=by
 unfold QgM QlU
 by_cases ea:a=[]
 ·rw[if_pos ea,if_pos (by rw[ea];rfl)]
 have la:¬(((a.length:Int)==0)=true):=by
  have:=List.length_pos_iff.2 ea
  simp;omega
 rw[if_neg ea,if_neg la]
 by_cases eb:b=[]
 ·rw[if_pos eb,if_pos (by rw[eb];rfl)]
 have lb:¬(((b.length:Int)==0)=true):=by
  have:=List.length_pos_iff.2 eb
  simp;omega
 rw[if_neg eb,if_neg lb]
 obtain⟨l1,n1⟩:=ha.resolve_left ea
 obtain⟨l2,n2⟩:=hb.resolve_left eb
 rw[Qoa l1.symm (by omega) hW n1,Qoa l2.symm (by omega) hW n2,QoA a W,QoA b W]
 simp only[Option.bind_some]
 by_cases hd:dst W a=dst W b
 ·rw[if_neg (by simp[hd]),if_neg (fun h=>h hd),Qui (by omega) (by omega)]
  simp only[Option.bind_some]
  by_cases hc:cmpL b a<0
  ·rw[if_pos hc,if_pos (decide_eq_true hc)]
  ·rw[if_neg hc,if_neg (by simpa using hc)]
 ·rw[if_pos (by simpa using hd),if_pos hd]
  by_cases hc:dst W a<dst W b
  ·rw[if_pos hc,if_pos (decide_eq_true hc)]
  ·rw[if_neg hc,if_neg (by simpa using hc)]
theorem Qvj {R:List QD} {p:List Int} (hf:R.length≤1000000) (hR:∀y∈R,VL (toC y) 6) (hp:NumP p):Qh5 R p=some (Qca (R.map toC) p):=by
 let st:Nat→Int×Int:=fun k=>((R.map toC).take k).foldl (fun r l=>if (l.A !=(p.length:Int)||decide (l.B≥(p.length:Int)))=true then r else if l.Least=true then (imax r.1 (bndS l p),r.2) else (r.1,imin r.2 (bndS l p))) (0,65536)
 unfold Qh5
 refine Qef R.length (fun k=>((k:Int),(st k).2,(st k).1)) ((st R.length).2,(st R.length).1) rfl (fun k hk=>?_) ?_ ?_
 ·dsimp only
  have hy:=hR _ (List.getElem_mem hk)
  have hk2:k<(R.map toC).length:=by rw[List.length_map];exact hk
  have es:st (k+1)=if (R[k].A !=(p.length:Int)||decide (R[k].B≥(p.length:Int)))=true then st k else if R[k].Least=true then (imax (st k).1 (bndS (toC R[k]) p),(st k).2) else ((st k).1,imin (st k).2 (bndS (toC R[k]) p)):=by
   show ((R.map toC).take (k+1)).foldl _ _=_
   rw[List.take_succ_eq_append_getElem hk2,List.foldl_append,List.getElem_map]
   rfl
  rw[if_pos (by simpa using hk),Qaa hk]
  simp only[Option.bind_some,Q1 hk (show R.length≤9223372036854775807 by omega)]
  rw[es]
  by_cases hA:R[k].A=(p.length:Int)
  ·have eA:(R[k].A !=(p.length:Int))=false:=by simpa using hA
   rw[eA]
   simp only[show (false==false)=true from rfl,Qhq,Option.bind_some,Bool.false_or]
   by_cases hB:R[k].B≥(p.length:Int)
   ·rw[if_pos (decide_eq_true hB),if_pos (decide_eq_true hB)]
    rfl
   ·have eB:decide (R[k].B≥(p.length:Int))=false:=by simpa using hB
    rw[eB]
    simp only[Bool.false_eq_true,if_false]
    have hb:(if decide (R[k].B≥0)=true then (idx p R[k].B).bind fun t=>some (IntKind.i64.wrap (R[k].Mul * t)) else some R[k].Mul)=some (bndS (toC R[k]) p):=by
     unfold bndS
     by_cases h0:R[k].B<0
     ·rw[if_neg (by simpa using h0),if_pos (show (toC R[k]).B<0 from h0)]
      rfl
     ·rw[if_pos (by simpa using h0),if_neg (show ¬(toC R[k]).B<0 from h0),QiC (by omega) (by omega)]
      have hm:=Qsf hy.m0 hy.m1 (Qmx hp R[k].B).1 (Qmx hp R[k].B).2
      simp only[Option.bind_some]
      have hm':0≤R[k].Mul * nth p R[k].B∧R[k].Mul * nth p R[k].B≤4294967296:=hm
      rw[w64 (by omega) (by omega)]
      rfl
    rw[hb]
    simp only[Option.bind_some]
    cases R[k].Least<;>rfl
  ·have eA:(R[k].A !=(p.length:Int))=true:=by simpa using hA
   rw[eA]
   rfl
 ·dsimp only
  rw[if_neg (by simp)]
 ·show some ((st R.length).1,(st R.length).2)=_
  have:st R.length=Qca (R.map toC) p:=by show ((R.map toC).take R.length).foldl _ _=_;rw[show R.length=(R.map toC).length by rw[List.length_map],List.take_length];rfl
  rw[this]
theorem QqB {w lo hi:Int} (h0:0≤lo) (h1:hi≤65536) (h2:¬hi<lo):0≤imin (imax w lo) hi∧imin (imax w lo) hi≤65536:=by
 unfold imin imax
 (repeat' split)<;>omega
theorem QmJ {L:List Qh} {W:List Int} {D:List Bool} (h:SrOk L W D):∀(m:Nat) (p:List Int),p.length+m=W.length→NumP p→∀x∈QaW L W D m p,NumP x
 | 0,p,_,hp,x,hx=>by rw[List.mem_singleton.1 hx];exact hp
 | m+1,p,hl,hp,x,hx=>by
  have hr:=Qov h hp
  have app:∀v,0≤v∧v≤65536→NumP (p++[v]):=fun v hv z hz=>by
   rcases List.mem_append.1 hz with hz | hz
   ·exact hp z hz
   ·rw[List.mem_singleton.1 hz];exact hv
  unfold QaW at hx
  split at hx
  ·cases hx
  ·rename_i hle
   split at hx
   ·obtain⟨v,hv,hxv⟩:=List.mem_flatMap.1 hx
    have:=Qrs.1 hv
    exact QmJ h m (p++[v]) (by simp;omega) (app v (by omega)) x hxv
   ·exact QmJ h m _ (by simp;omega) (app _ (QqB hr.1 hr.2 hle)) x hx
theorem Quk {lo n:Int} (h:lo≤n):seqI lo n=seqI lo (n - 1)++[n]:=by
 unfold seqI
 rw[show (n - lo+1).toNat=(n - 1 - lo+1).toNat+1 by omega,List.range_succ,List.map_append]
 congr 1
 simp
 omega
theorem Qpy {R:List QD} {W:List Int} {D:List Bool} (hf:R.length≤1000000) (hR:∀y∈R,VL (toC y) 6) (hS:SrOk (R.map toC) W D) (h1:1≤W.length):∀(m N:Nat) (p:List Int),p.length+m=W.length→m<N→NumP p→
  Ok (Qdl N R D W p) (fun r=>QjN W (QaW (R.map toC) W D m p) r)
 | m,0,p,_,hN,_=>by omega
 | 0,N+1,p,hl,_,hp=>by
  show Ok (Qdk (Qdl N) R D W p) _
  unfold Qdk
  rw[if_pos (by simp;omega)]
  have h6:=hS.six
  refine Ok.rm (by simp;omega) (Ok.mk (.inr ?_))
  rw[List.nil_append]
  exact⟨List.mem_singleton_self _,fun z hz=>by rw[List.mem_singleton.1 hz];exact LeP.self W p⟩
 | m+1,N+1,p,hl,hN,hp=>by
  have h6:=hS.six
  have hDl:=hS.leads
  have hr:=Qov hS hp
  have hpW:p.length<W.length:=by omega
  have app:∀v,0≤v∧v≤65536→NumP (p++[v]):=fun v hv z hz=>by
   rcases List.mem_append.1 hz with hz | hz
   ·exact hp z hz
   ·rw[List.mem_singleton.1 hz];exact hv
  have rec':∀v,0≤v∧v≤65536→Ok (Qdl N R D W (p++[v])) (fun r=>QjN W (QaW (R.map toC) W D m (p++[v])) r):=fun v hv=>Qpy hf hR hS h1 m N (p++[v]) (by simp;omega) (by omega) (app v hv)
  show Ok (Qdk (Qdl N) R D W p) _
  unfold Qdk QaW
  rw[if_neg (by simp;omega),Qvj hf hR hp]
  simp only[Option.bind_some]
  generalize Qca (R.map toC) p=rm at hr ⊢
  by_cases hle:rm.2<rm.1
  ·rw[if_pos (by simpa using hle),if_pos hle]
   exact Ok.mk (.inl ⟨rfl,rfl⟩)
  rw[if_neg (by simpa using hle),if_neg hle]
  have hDp:p.length<D.length:=by omega
  rw[Qaa hDp,←getD_lt' (z:=false) hDp]
  simp only[Option.bind_some]
  cases hD:D.getD p.length false with
  | false=>
   rw[if_pos (by decide),if_neg (by decide),Qaa hpW]
   simp only[Option.bind_some]
   refine Ok.rm (by simp;omega) (Ok.rm (by simp;omega) ?_)
   rw[List.nil_append]
   have ew:W[p.length]=nth W (p.length:Int):=by unfold nth;rw[Int.toNat_natCast,getD_lt' hpW]
   rw[ew]
   exact (rec' _ (QqB hr.1 hr.2 hle)).bind fun r hr=>Ok.mk hr
  | true=>
   rw[if_neg (by decide),if_pos rfl]
   refine Ok.bind (P:=fun r=>QjN W ((seqI rm.1 rm.2).flatMap fun v=>QaW (R.map toC) W D m (p++[v])) r) (Ok.loop (fun k s=>rm.1≤s.1∧s.1+k=rm.2+1∧QjN W ((seqI rm.1 (s.1 - 1)).flatMap fun v=>QaW (R.map toC) W D m (p++[v])) s.2) (rm.2+1 - rm.1).toNat ⟨Int.le_refl _,by dsimp only;omega,.inl ⟨by dsimp only;rw[Qrr (by omega)];rfl,rfl⟩⟩ fun k s hs=>?_) fun r hr=>Ok.mk hr
   obtain⟨n,best⟩:=s
   obtain⟨s1,s2,s3⟩:=hs
   dsimp only at s1 s2 s3
   have lens:∀(lo hi:Int),∀z∈(seqI lo hi).flatMap (fun v=>QaW (R.map toC) W D m (p++[v])),z.length=W.length:=fun lo hi z hz=>by
    obtain⟨v,_,hv⟩:=List.mem_flatMap.1 hz
    exact QkV m (p++[v]) (by simp;omega) z hv
   have ob:∀(l:List (List Int)) (r:List Int),(∀z∈l,z.length=W.length)→(∀z∈l,NumP z)→QjN W l r→r=[]∨(r.length=W.length∧NumP r):=fun l r h1 h2 h=>by
    rcases h with⟨_,h⟩ | h
    ·exact .inl h
    ·exact .inr ⟨h1 r h.1,h2 r h.1⟩
   refine Ok.ite (fun hc=>?_) (fun hc=>?_)
   ·have hc':n≤rm.2:=of_decide_eq_true hc
    refine Ok.rm (by simp;omega) (Ok.rm (by simp;omega) ?_)
    rw[List.nil_append]
    refine (rec' n (by omega)).bind fun r hr=>?_
    have l2:∀z∈QaW (R.map toC) W D m (p++[n]),z.length=W.length:=fun z hz=>QkV m (p++[n]) (by simp;omega) z hz
    have hb:=Quj hS.want h6 (ob _ _ (lens _ _) (fun z hz=>by
     obtain⟨v,hv,hzv⟩:=List.mem_flatMap.1 hz
     have:=Qrs.1 hv
     exact QmJ hS m (p++[v]) (by simp;omega) (app v (by omega)) z hzv) s3) (ob _ _ l2 (fun z hz=>QmJ hS m (p++[n]) (by simp;omega) (app n (by omega)) z hz) hr)
    rw[hb]
    simp only[Option.bind_some]
    refine Ok.mk ⟨k - 1,by omega,?_⟩
    dsimp only
    rw[w64 (by omega) (by omega)]
    refine⟨by omega,by omega,?_⟩
    rw[show n+1 - 1=n by omega,Quk s1,List.flatMap_append]
    refine QtP h1 (lens _ _) ?_ s3 ?_
    ·simpa using l2
    ·simpa using hr
   ·have hc':¬n≤rm.2:=of_decide_eq_false hc
    refine Ok.mk ?_
    rw[show n - 1=rm.2 by omega] at s3
    exact s3
theorem QrR {R:List QD} {n:Nat} (hn:n≤1000000) (hl:R.length≤1000000) (hR:∀y∈R,y.B<(n:Int)):Qhp (n:Int) R=some (Qhr (R.map toC) n):=by
 unfold Qhp
 rw[QtJ _ _ (by omega)]
 simp only[Option.bind_some]
 let st:Nat→List Bool:=fun k=>((R.map toC).take k).foldl (fun d y=>if y.B≥0 then d.set y.B.toNat true else d) (List.replicate n false)
 have hst:∀k,(st k).length=n:=fun k=>(Qld ((R.map toC).take k) _).trans List.length_replicate
 refine Qef R.length (fun k=>((k:Int),st k)) (st R.length) rfl (fun k hk'=>?_) ?_ ?_
 ·dsimp only
  have hk2:k<(R.map toC).length:=by rw[List.length_map];exact hk'
  have es:st (k+1)=if R[k].B≥0 then (st k).set R[k].B.toNat true else st k:=by
   show ((R.map toC).take (k+1)).foldl _ _=_
   rw[List.take_succ_eq_append_getElem hk2,List.foldl_append,List.getElem_map]
   rfl
  rw[if_pos (by simpa using hk'),Qaa hk']
  simp only[Option.bind_some,es,Q1 hk' (show R.length≤9223372036854775807 by omega)]
  have hb1:=hR _ (List.getElem_mem hk')
  by_cases hb:R[k].B≥0
  ·rw[if_pos (by simpa using hb),if_pos hb]
   have hs:setAt (st k) R[k].B true=some ((st k).set R[k].B.toNat true):=by
    unfold setAt
    rw[if_pos ⟨hb,by rw[hst];omega⟩]
   rw[hs]
   rfl
  ·rw[if_neg (by simpa using hb),if_neg hb]
   rfl
 ·dsimp only
  rw[if_neg (by simp)]
 ·show some (st R.length)=_
  have:st R.length=Qhr (R.map toC) n:=by show ((R.map toC).take R.length).foldl _ _=_;rw[show R.length=(R.map toC).length by rw[List.length_map],List.take_length];rfl
  rw[this]
theorem QsY {x:Qg} {D:List Bool} (hk:x.Kinds.length≤1000) (hD:D.length=x.Kinds.length) (hK:∀k∈x.Kinds,0≤k.Lo∧k.Lo≤k.Hi∧k.Hi≤65536):QgL x D=some (decide (QbY x D x.Kinds.length≤131072)):=by
 have hp:∀k,k≤x.Kinds.length→0≤QbY x D k∧QbY x D k≤131072 * 65537:=by
  intro k
  induction k with
  | zero=>intro _;exact⟨show (0:Int)≤1 by decide,show (1:Int)≤131072 * 65537 by decide⟩
  | succ k ih=>
   intro h
   obtain⟨i1,i2⟩:=ih (by omega)
   have hq:=hK _ (List.getElem_mem (show k<x.Kinds.length by omega))
   unfold QbY
   rw[List.getElem?_eq_getElem (by omega)]
   dsimp only
   split
   ·rename_i hc
    simp only[Bool.and_eq_true,decide_eq_true_eq] at hc
    refine⟨Int.mul_nonneg i1 (by omega),?_⟩
    exact Int.mul_le_mul hc.2 (by omega) (by omega) (by decide)
   ·exact⟨i1,i2⟩
 unfold QgL
 refine Qef x.Kinds.length (fun k=>((k:Int),QbY x D k)) (QbY x D x.Kinds.length) rfl (fun k hk'=>?_) ?_ rfl
 ·dsimp only
  have hkD:k<D.length:=by omega
  obtain⟨i1,i2⟩:=hp k (by omega)
  obtain⟨j1,j2⟩:=hp (k+1) (by omega)
  have hq:=hK _ (List.getElem_mem hk')
  have es:QbY x D (k+1)=if (D.getD k false&&decide (QbY x D k≤131072))=true then QbY x D k * (x.Kinds[k].Hi - x.Kinds[k].Lo+1) else QbY x D k:=by
   rw[QbY,List.getElem?_eq_getElem hk']
  rw[if_pos (by simpa using hk'),Qaa hk',Qaa hkD,←getD_lt' (z:=false) hkD]
  simp only[Option.bind_some,Q1 hk' (show x.Kinds.length≤9223372036854775807 by omega)]
  rw[es] at j1 j2 ⊢
  by_cases hc:(D.getD k false&&decide (QbY x D k≤131072))=true
  ·rw[if_pos hc] at j1 j2
   rw[if_pos hc,if_pos hc,w64 (n:=x.Kinds[k].Hi - x.Kinds[k].Lo) (by omega) (by omega),w64 (n:=x.Kinds[k].Hi - x.Kinds[k].Lo+1) (by omega) (by omega),w64 (by omega) (by omega)]
   rfl
  ·rw[if_neg hc,if_neg hc]
   rfl
 ·dsimp only
  rw[if_neg (by simp)]
theorem Qvk {x:Qg} {want:List Int} {R:List QD} {nm:List Str} (hLim:Qfk x=some (R,nm,0)) (hk:x.Kinds.length≤6) (hK:∀k∈x.Kinds,0≤k.Lo∧k.Lo≤k.Hi∧k.Hi≤65536)
  (hL:∀y∈R,VL (toC y) (x.Kinds.length:Int)) (hf:R.length≤1000000) (hw:want.length≤1000000):QfC x want=some (Qmy x (R.map toC) want):=by
 unfold QfC Qmy
 rw[hLim]
 simp only[Option.bind_some]
 rw[if_neg (by decide)]
 by_cases hn:want.length=x.Kinds.length
 ·have e0:((want.length:Int) !=(x.Kinds.length:Int))=false:=by simp[hn]
  rw[e0]
  simp only[show (false==false)=true from rfl,Qhq,Bool.false_or]
  rw[QsM hw]
  simp only[Option.bind_some]
  by_cases ha:numL want=true
  ·have hW:=Qsh.1 ha
   rw[ha,if_neg (by decide),if_neg (by simp[hn]),QrR (by omega) hf (fun y hy=>by have:=(hL y hy).b1;rw[hn];exact this)]
   simp only[Option.bind_some]
   have hDl:(Qhr (R.map toC) want.length).length=want.length:=(Qld _ _).trans List.length_replicate
   generalize hD:Qhr (R.map toC) want.length=D at hDl ⊢
   rw[QsY (by omega) (by omega) hK]
   simp only[Option.bind_some]
   by_cases hpr:131072<QbY x D x.Kinds.length
   ·rw[if_pos (by simp;omega),if_pos hpr]
   ·rw[if_neg (by simp;omega),if_neg hpr]
    have hS:SrOk (R.map toC) want D:=⟨by rw[List.length_map];exact hf,fun y hy=>by
     obtain⟨z,hz,rfl⟩:=List.mem_map.1 hy
     exact (hL z hz).weak (by omega),hW,by omega,hDl⟩
    by_cases h0:want.length=0
    ·rw[if_pos (by simp[h0])]
     have e:want=[]:=List.length_eq_zero_iff.1 h0
     subst e
     rw[if_neg]
     ·rfl
     ·show ¬(Qg9 (R.map toC) [] D).2<0
      rw[Qnu]
      intro h
      cases h
    ·rw[if_neg (by rw[beq_iff_eq];omega)]
     obtain⟨r,hr,hb⟩:=Qpy hf (fun y hy=>(hL y hy).weak (by omega)) hS (by omega) want.length (want.length+2) [] (by simp) (by omega) (fun z hz=>by cases hz)
     unfold Qjp
     rw[hr]
     simp only[Option.bind_some]
     rw[Qw2 (by omega) (by omega) hb]
     by_cases he:r=[]
     ·rw[if_pos he,if_pos (by rw[he];rfl)]
     ·have:=List.length_pos_iff.2 he
      rw[if_neg he,if_neg (by rw[beq_iff_eq];omega)]
  ·have ha':numL want=false:=by simpa using ha
   rw[ha',if_pos (by decide),if_pos (.inr rfl)]
 ·have e0:((want.length:Int) !=(x.Kinds.length:Int))=true:=by simp;omega
  rw[e0,if_pos (.inl hn)]
  rfl

end Go.Proofs.YtcdccjagknlmpaaGreatDoor

namespace Go.Proofs.YtcdccjagknlmpaaGreatDoor
open Go.Sim

theorem Qul {l:List Int} {n:Int} (h0:0≤n) (hn:n≤1000):Ok (Qh2 l n) (fun r=>r.length≤1000):=by
 have e1:imin (l.length:Int) n≤l.length∧0≤imin (l.length:Int) n∧imin (l.length:Int) n≤n:=by unfold imin;split<;>omega
 unfold Qh2
 refine Ok.sub (Int.le_refl _) e1.2.1 e1.1 fun r hr _=>?_
 refine Ok.rm (by simp;omega) (Ok.mk ?_)
 simp;omega

end Go.Proofs.YtcdccjagknlmpaaGreatDoor

namespace Go.Proofs.YtcdccjagknlmpaaGreatDoor
open Go.Sim

theorem Qsn (x:Qg):(limL QD.mk x).map toC=limL Qh.mk x:=by
 rw[←Qxg,List.map_map]
 refine (List.map_congr_left fun y _=>?_).trans (List.map_id _)
 rfl
theorem Qvl {x:Qg} {L:List Qh} {want:List Int}:(Qmy x L want).1.length≤1000000:=by
 unfold Qmy
 split
 ·simp
 ·split
  ·simp
  ·split
   ·simp
   ·show (List.take _ _).length≤_
    have:(Qg9 L want (Qhr L want.length)).1.L.length=6:=rfl
    rw[List.length_take]
    omega
/-- Plan gives the same both ways. -/
theorem Qum {x:Qg} (hs:Qkt x) {want:List Int} (hw:want.length≤1000000):∃P,Qa9 x want=some P∧QfC x want=some P∧P.1.length≤1000000:=by
 cases hc:QcT x with
 | nil=>
  have hv:=QgZ hc
  have hl:=Qpx hs
  have hn:=(QrD QD.mk x).1
  unfold limR at hl hn
  rw[hc] at hl hn
  dsimp only at hn
  refine⟨_,Qxh hs hc hw,?_,Qvl⟩
  have hvl:∀y∈limL QD.mk x,VL (toC y) (x.Kinds.length:Int):=fun y hy=>by
   refine (QqA hc (toC y) ?_).1
   rw[←Qsn]
   exact List.mem_map_of_mem hy
  rw[←Qsn]
  refine Qvk hl hv.kinds (fun k hk=>?_) hvl (by omega) hw
  have h:=hv.kind k hk
  simp only[Qd7,Bool.and_eq_true] at h
  exact Qdt h.1.1.2
 | cons p l=>
  have he:=QrC (x:=x) (p:=p) (by rw[hc];exact List.mem_cons_self ..)
  have h1:=Qqz hs
  have h2:=Qpx hs
  unfold limR at h1 h2
  rw[hc] at h1 h2
  refine⟨([],p.Code),?_,?_,by simp⟩
  ·unfold Qa9
   rw[h1]
   simp only[Option.bind_some]
   rw[if_pos (by simpa using he)]
  ·unfold QfC
   rw[h2]
   simp only[Option.bind_some]
   rw[if_pos (by simpa using he)]
def bigS:Qg:=Qg.mk 0 [Qj.mk [97] 1 65536 [Qb.mk [105,100] [] [] 0 0 0 [] []],Qj.mk [98] 3 9 [Qb.mk [105,100] [] [] 0 0 0 [] [],Qb.mk [111,102] [97] [] 1 0 4 [] [],Qb.mk [98,121] [97] [] 1 0 4 [] []],Qj.mk [99] 0 9 [Qb.mk [105,100] [] [] 0 0 0 [] [],Qb.mk [111,102] [98] [] 1 0 1 [] []]] [] []
theorem Qvm:Qa9 bigS [1,1,1]=some ([],4):=LeC.le (x:=QeW 64 bigS [1,1,1]) _ (by kernel_rfl:QeW 64 bigS [1,1,1]=some ([],4))

theorem QsZ (l want:List Int) (a h b:Int) (i0:∀x∈l,I64 x) (i1:∀x∈want,I64 x) (i2:I64 a) (i3:I64 h) (i4:I64 b):QdX l want a h b=some true:=by
 have key:Ok (QdX l want a h b) (fun r=>r=true):=by
  unfold QdX
  refine (QtR i0).bind fun x hx=>?_
  refine (QtS hx i2 i3 i4).bind fun y hy=>?_
  have hxs:Sz x:=hx.sz (by decide)
  obtain⟨C,hC⟩:∃C,[x,y]=C:=⟨_,rfl⟩
  have hCs:∀z∈C,Sz z:=by
   rw[←hC]
   intro z hz
   simp only[List.mem_cons,List.not_mem_nil,or_false] at hz
   rcases hz with rfl | rfl
   ·exact hxs
   ·exact hy
  have hCn:C.length=2:=by rw[←hC];rfl
  rw[hC]
  rw[Qeg C (fun _=>true) false (fun j hj=>?_) (if_neg (by rw[hCn];simp))]
  ·rw[if_pos (by simp)]
   have hb:=Qvm
   unfold bigS at hb
   show Ok ((Qa9 _ _).bind _) _
   refine⟨true,?_,rfl⟩
   refine (congrArg (Option.bind · _) hb).trans ?_
   show ((opt true QeS default).bind _)=_
   rw[Qhq,QsW]
   rfl
  ·rw[if_pos rfl,if_pos (by simp;omega)]
   have hz:=hCs _ (List.getElem_mem hj)
   have hk3:C[j].Kinds.length≤3:=hz.1.1
   have iC:idx C (j:Int)=some C[j]:=Qaa hj
   suffices hmain:Ok _ (fun r=>r=Sum.inl (((j+1:Nat):Int))) by
    obtain⟨r,hr,rfl⟩:=hmain
    exact hr
   refine Ok.bind (P:=fun _:Bool=>True) (Ok.loop (fun k s=>0≤s.1∧s.1+k=C[j].Kinds.length) C[j].Kinds.length ⟨Int.le_refl _,by simp⟩ fun k s hs=>?_) fun wide _=>?_
   ·obtain⟨i,f⟩:=s
    obtain⟨s1,s2⟩:=hs
    dsimp only at s1 s2
    rw[iC]
    simp only[Option.bind_some]
    refine Ok.ite (fun hc=>?_) (fun hc=>Ok.mk trivial)
    have hc':i<C[j].Kinds.length:=of_decide_eq_true hc
    refine Ok.opt (P:=fun z=>z=C[j]) (fun _=>Ok.mk rfl) fun z hz=>?_
    refine Ok.opt (P:=fun _=>True) (fun hf=>?_) fun q _=>Ok.mk ⟨k - 1,by omega,?_⟩
    ·rw[hz hf]
     have:=Ok.idx (f:=some) (Q:=fun _=>True) s1 hc' fun v _ _=>Ok.mk trivial
     simpa using this
    ·dsimp only
     rw[w64 (by omega) (by omega)]
     omega
   ·rw[iC]
    simp only[Option.bind_some]
    refine (Qqm i1 (by omega) (by omega)).bind fun w1 hw1=>?_
    refine (Qul (by omega) (by omega)).bind fun w2 hw2=>?_
    refine (Qqm i1 (by omega) (by omega)).bind fun w4 hw4=>?_
    obtain⟨Z,hZ⟩:∃Z,[w1,w2,w4,([]:List Int)]=Z:=⟨_,rfl⟩
    have hZl:∀z∈Z,z.length≤1000000:=by
     have:=hw1.1
     have:=hw4.1
     rw[←hZ]
     intro z hz
     simp only[List.mem_cons,List.not_mem_nil,or_false] at hz
     rcases hz with rfl | rfl | rfl | rfl<;>first | (simp;done) | omega
    have hZn:Z.length=4:=by rw[←hZ];rfl
    rw[hZ]
    refine Ok.bind (P:=fun e:Unit⊕Bool=>e=.inl ()) (Ok.loop (fun k s=>0≤s∧s+k=Z.length) Z.length ⟨Int.le_refl _,by simp⟩ fun k s hs=>?_) fun e he=>?_
    ·obtain⟨s1,s2⟩:=hs
     refine Ok.ite (fun hc=>?_) (fun hc=>Ok.mk rfl)
     simp only[Bool.and_eq_true,decide_eq_true_eq] at hc
     refine Ok.idx s1 hc.1 fun w hwm hwi=>?_
     obtain⟨P,p1,p2,p3⟩:=Qum hz.short (hZl w hwm)
     have iw:idx Z s=some w:=by rw[QgX _ s1];exact hwi
     rw[p1,iw]
     simp only[Option.bind_some,p2,bne_self_eq_false,show (false==false)=true from rfl,Qhq,QsX p3,Bool.not_true,Bool.or_self]
     rw[if_neg (by decide)]
     refine Ok.mk ⟨k - 1,by omega,?_⟩
     rw[w64 (by omega) (by omega)]
     omega
    ·subst he
     refine Ok.mk ?_
     rw[Q1 hj (by omega)]
 obtain⟨r,hr,rfl⟩:=key
 exact hr

end Go.Proofs.YtcdccjagknlmpaaGreatDoor

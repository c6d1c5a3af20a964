/- CountsLimits: the limits of a schema, both ways, and the plain law. No condition. -/
import Derived.Test.YtlajingmjmnfgaaGreatDoorTyN
import Derived.Test.YtlajingmjmnfgaaGreatDoorEvalA
import Derived.Test.YtlajingmjmnfgaaGreatDoorCtA
import Derived.Test.YtlajingmjmnfgaaGreatDoorGenAll
import Derived.Test.YtlajingmjmnfgaaGreatDoorPlain
set_option linter.all false
open List Go.IntKind
namespace Go.Proofs.YtlajingmjmnfgaaGreatDoor
open Go.Sim
/-- A loop that collects twice. -/
theorem Qpn {β γ:Type} (n:Nat) (g:Nat→List β) (h:Nat→List γ) (B:Nat) (hB:∀k,k<n→(g k).length≤B∧(h k).length≤B) (a0:List β) (b0:List γ) {body:Int×List β×List γ→Option ((Int×List β×List γ)⊕(List β×List γ))}
  (hs:∀k,k<n→∀(p:List β) (q:List γ),p.length≤a0.length+k * B→q.length≤b0.length+k * B→body ((k:Int),p,q)=some (.inl (((k+1:Nat):Int),p++g k,q++ h k))) (he:∀p q,body ((n:Int),p,q)=some (.inr (p,q))):
  Qo body ((0:Int),a0,b0)=some (a0++(range n).flatMap g,b0++(range n).flatMap h):=by
 have hlen:∀m,m≤n→((range m).flatMap g).length≤m * B∧((range m).flatMap h).length≤m * B:=fun m hm=>
  ⟨Qbm m g B fun k hk=>(hB k (by omega)).1,Qbm m h B fun k hk=>(hB k (by omega)).2⟩
 have key:=Qca (body:=body) n (fun m=>((m:Int),a0++(range m).flatMap g,b0++(range m).flatMap h)) (a0++(range n).flatMap g,b0++(range n).flatMap h) (fun k hk=>?_) ?_
 ·simpa using key
 ·have:=hlen k (by omega)
  rw[hs k hk _ _ (by rw[length_append];omega) (by rw[length_append];omega),range_succ,flatMap_append,flatMap_append]
  simp
 ·rw[he]
def Qur:Str:=[32,108,101,97,115,116]
def mostT:Str:=[32,109,111,115,116]
section
variable {τ:Type} (mk:Int→Int→Int→Bool→τ)
def Qe1 (i j lo hi:Int):List τ:=[mk i j lo true,mk i j hi false]
def fldL (x:Qa) (i:Nat) (q:Qe) (j:Nat):List τ:=match q.Fields[j]? with | some f=>if (f.Kind==1)=true then Qe1 mk (i:Int) (kindIx x f.Of) f.Lo f.Hi else [] | none=>[]
def kndL (x:Qa) (i:Nat):List τ:=match x.Kinds[i]? with | some q=>Qe1 mk (i:Int) (-1) q.Lo q.Hi++(range q.Fields.length).flatMap (fldL mk x i q) | none=>[]
def limL (x:Qa):List τ:=(range x.Kinds.length).flatMap (kndL mk x)
end
def Qh4 (s:Str):List Str:=[s++Qur,s++mostT]
def fldN (q:Qe) (j:Nat):List Str:=match q.Fields[j]? with | some f=>if (f.Kind==1)=true then Qh4 ((q.Name++[46])++f.Name) else [] | none=>[]
def kndN (x:Qa) (i:Nat):List Str:=match x.Kinds[i]? with | some q=>Qh4 q.Name++(range q.Fields.length).flatMap (fldN q) | none=>[]
def namL (x:Qa):List Str:=(range x.Kinds.length).flatMap (kndN x)
theorem Qm4 {τ:Type} (mk:Int→Int→Int→Bool→τ) (x:Qa) (i:Nat) (q:Qe) (j:Nat):(fldL mk x i q j).length≤2∧(fldN q j).length≤2:=by
 unfold fldL fldN
 cases q.Fields[j]? with
 | none=>simp
 | some f=>dsimp only;constructor<;>split<;>simp[Qe1,Qh4]
theorem QkK {τ:Type} (mk:Int→Int→Int→Bool→τ) {x:Qa} (hv:QeU x) (i:Nat):(kndL mk x i).length≤22∧(kndN x i).length≤22:=by
 unfold kndL kndN
 cases hq:x.Kinds[i]? with
 | none=>simp
 | some q=>
  have hf:=(Qcl (hv.kind q (mem_of_getElem? hq))).2.1
  have h1:=Qbm q.Fields.length (fldL mk x i q) 2 fun j _=>(Qm4 mk x i q j).1
  have h2:=Qbm q.Fields.length (fldN q) 2 fun j _=>(Qm4 mk x i q j).2
  simp only[length_append,Qe1,Qh4,length_cons,length_nil]
  omega
theorem Qjl {x:Qa} {p:Qq} (h:p∈QP x):p.Code≠0:=by
 have hp:∀{k j r e:Int},p∈prob k j r e→p.Code≠0:=fun {k j r e} h=>by
  unfold prob at h
  split at h
  ·cases h
  ·rw[mem_singleton.1 h];assumption
 unfold QP at h
 split at h
 ·simp only[mem_append] at h
  rcases h with (h | h) | h
  ·obtain⟨i,_,h⟩:=mem_flatMap.1 h
   unfold Qhd at h
   split at h
   ·exact hp h
   ·cases h
  ·obtain⟨i,_,h⟩:=mem_flatMap.1 h
   unfold Qgg at h
   split at h
   ·rcases mem_append.1 h with h | h
    ·exact hp h
    ·obtain⟨j,_,h⟩:=mem_flatMap.1 h
     unfold QfK at h
     split at h
     ·exact hp h
     ·cases h
   ·cases h
  ·obtain⟨i,_,h⟩:=mem_flatMap.1 h
   unfold Qh3 at h
   split at h
   ·exact hp h
   ·cases h
 ·rw[mem_singleton.1 h];assumption
theorem Qal {x:Qa} (h:QP x=[]):QeU x:=by
 unfold QP at h
 by_cases hv:QfJ x=0
 ·unfold QfJ at hv
  by_cases hs:Qeg x=true
  ·exact Qkg hs
  ·rw[if_neg hs] at hv;cases hv
 ·rw[if_neg hv] at h;cases h
theorem QnG {q:Qe} (h:kindS q=true):q.Name.length≤12:=by
 simp only[kindS,Bool.and_eq_true] at h
 exact Qem h.1.1.1
theorem Qmn {f:Qb} (h:fieldS f=true):f.Name.length≤12:=by
 simp only[fieldS,Bool.and_eq_true] at h
 exact Qem h.1.1
theorem Qgh {n:Nat} (h:n≤1000000):cat n=some ():=by unfold cat;rw[if_pos (by omega)]
theorem add13 {s:Str} {a b lo hi:Int} {c0:List Qg} {c1:List Str} (hs:s.length≤1000) (h0:c0.length≤1000000) (h1:c1.length≤1000000):
  Qco s a b lo hi c0 c1=some (c0++Qe1 Qg.mk a b lo hi,c1++Qh4 s):=by
 unfold Qco
 rw[Qcj (by simp;omega),Qgh (by simp;omega),Qgh (by simp;omega),Qcj (by simp;omega)]
 rfl
theorem Qwm {x:Qa} (h:QeB x):QeL x=some (match QP x with | []=>0 | p::_=>p.Code):=by
 unfold QeL
 rw[Qpm h]
 simp only[Option.bind_some]
 cases QP x with
 | nil=>rfl
 | cons p l=>
  rw[if_pos (by simp)]
  rfl
noncomputable def limR {τ:Type} (mk:Int→Int→Int→Bool→τ) (x:Qa):List τ×List Str×Int:=match QP x with | []=>(limL mk x,namL x,0) | p::_=>([],[],p.Code)
theorem QnH {x:Qa} (h:QeB x):Qc8 x=some (limR Qg.mk x):=by
 unfold Qc8 limR
 rw[Qwm h]
 simp only[Option.bind_some]
 cases hc:QP x with
 | cons p l=>
  have:=Qjl (x:=x) (p:=p) (by rw[hc];exact mem_cons_self ..)
  dsimp only
  rw[if_pos (by simpa using this)]
 | nil=>
  have hv:=Qal hc
  have hk:=hv.kinds
  dsimp only
  rw[if_neg (by simp)]
  refine (congrArg (Option.bind · _) (Qpn x.Kinds.length (kndN x) (kndL Qg.mk x) 22 (fun i _=>⟨(QkK Qg.mk hv i).2,(QkK Qg.mk hv i).1⟩) [] [] (fun i hi p q hp hq=>?_) (fun p q=>by rw[if_neg (by simp)]))).trans ?_
  ·simp only[length_nil,Nat.zero_add] at hp hq
   have hib:i * 22≤132:=by omega
   rw[if_pos (by simpa using hi),QY hi]
   have hK:=hv.kind _ (getElem_mem hi)
   have hf10:=(Qcl hK).2.1
   have hnm:=QnG hK
   simp only[Option.bind_some]
   rw[add13 (by omega) (by omega) (by omega)]
   simp only[Option.bind_some]
   rw[Qpn x.Kinds[i].Fields.length (fldL Qg.mk x i x.Kinds[i]) (fldN x.Kinds[i]) 2 (fun j _=>Qm4 _ _ _ _ _) _ _ (fun j hj p' q' hp' hq'=>?_) (fun p' q'=>by rw[if_neg (by simp)])]
   ·simp only[Option.bind_some]
    have e1:kndL Qg.mk x i=Qe1 Qg.mk (i:Int) (-1) x.Kinds[i].Lo x.Kinds[i].Hi++(range x.Kinds[i].Fields.length).flatMap (fldL Qg.mk x i x.Kinds[i]):=by unfold kndL;rw[getElem?_eq_getElem hi]
    have e2:kndN x i=Qh4 x.Kinds[i].Name++(range x.Kinds[i].Fields.length).flatMap (fldN x.Kinds[i]):=by unfold kndN;rw[getElem?_eq_getElem hi]
    rw[e1,e2,QK hi (by omega),append_assoc,append_assoc]
   ·simp only[length_append,Qe1,Qh4,length_cons,length_nil] at hp' hq'
    have hfn:=Qmn ((Qcl hK).2.2 _ (getElem_mem hj))
    rw[if_pos (by simpa using hj),QY hj]
    simp only[Option.bind_some]
    have e1:fldL Qg.mk x i x.Kinds[i] j=if (x.Kinds[i].Fields[j].Kind==1)=true then Qe1 Qg.mk (i:Int) (kindIx x x.Kinds[i].Fields[j].Of) x.Kinds[i].Fields[j].Lo x.Kinds[i].Fields[j].Hi else []:=by unfold fldL;rw[getElem?_eq_getElem hj]
    have e2:fldN x.Kinds[i] j=if (x.Kinds[i].Fields[j].Kind==1)=true then Qh4 ((x.Kinds[i].Name++[46])++x.Kinds[i].Fields[j].Name) else []:=by unfold fldN;rw[getElem?_eq_getElem hj]
    rw[e1,e2,QK hj (by omega)]
    cases (x.Kinds[i].Fields[j].Kind==1) with
    | false=>simp
    | true=>
     rw[if_pos rfl,if_pos rfl,if_pos rfl,Qgh (by simp;omega),Qgh (by simp;omega),Qcq (by omega)]
     simp only[Option.bind_some]
     rw[add13 (by simp;omega) (by omega) (by omega)]
     rfl
  ·rfl
theorem Qm5 {a:List Str} (ha:a.length≤1000000):Qdo a a=some true:=by
 unfold Qdo
 rw[if_neg (by simp),Qpb a (fun _=>true) false (fun k hk=>?_) (if_neg (by simp))]
 ·rw[if_pos (by simp)]
  rfl
 ·rw[if_pos rfl,if_pos (by simpa using hk),QY hk]
  simp only[Option.bind_some]
  rw[if_neg (by simp),QK hk (by omega)]
end Go.Proofs.YtlajingmjmnfgaaGreatDoor
namespace Go.Proofs.YtlajingmjmnfgaaGreatDoor
open Go.Sim
theorem Qjm {k j r e:Int} (h:prob k j r e=[]):e=0:=by
 unfold prob at h
 split at h
 ·assumption
 ·cases h
theorem clean {x:Qa} (hc:QP x=[]) {k j:Int} {q:Qe} {f:Qb} (hq:idx x.Kinds k=some q) (hf:field? x k j=some f):Qgf x q k j f=0:=by
 obtain⟨q',hk,hj,hq',hqf,_,hkl,hjl⟩:=Qfw hf
 rw[hq] at hq';cases hq'
 obtain⟨i,rfl⟩:=Int.eq_ofNat_of_zero_le hk
 obtain⟨n,rfl⟩:=Int.eq_ofNat_of_zero_le hj
 rw[QaU] at hq hqf
 unfold QP at hc
 split at hc
 ·simp only[append_eq_nil_iff] at hc
  have h1:=hc.1.2
  unfold QgR at h1
  rw[flatMap_eq_nil_iff] at h1
  have h2:=h1 i (mem_range.2 (by omega))
  unfold Qgg at h2
  rw[hq] at h2
  dsimp only at h2
  rw[append_eq_nil_iff] at h2
  have h3:=h2.2
  unfold QiH at h3
  rw[flatMap_eq_nil_iff] at h3
  have h4:=h3 n (mem_range.2 (by omega))
  unfold QfK at h4
  rw[hqf] at h4
  have h5:=Qjm h4
  unfold QhM at h5
  split at h5
  ·cases h5
  ·exact h5
 ·cases hc
theorem Qb0 {a:Bool} {c:Int} {r:List QV} (h:QaJ (⟨a,c⟩::r)=0) (hc:c≠0):a=false∧QaJ r=0:=by
 unfold QaJ at h
 cases a with
 | true=>exact (hc h).elim
 | false=>exact⟨rfl,h⟩
theorem Qpo {x:Qa} {q:Qe} {k j:Int} {f:Qb} (h:Qgf x q k j f=0) (hk:f.Kind=1∨f.Kind=7∨f.Kind=8):0≤upIx x k j:=by
 unfold Qgf at h
 rcases hk with hk | hk | hk
 ·rw[if_neg (by omega),if_pos hk] at h
  have:=(Qb0 h (by decide)).1
  simpa using this
 ·rw[if_neg (by omega),if_neg (by omega),if_neg (by omega),if_neg (by omega),if_neg (by omega),if_pos hk] at h
  have:=(Qb0 h (by decide)).1
  simpa using this
 ·rw[if_neg (by omega),if_neg (by omega),if_neg (by omega),if_neg (by omega),if_neg (by omega),if_neg (by omega),if_pos hk] at h
  have:=(Qb0 h (by decide)).1
  simpa using this
end Go.Proofs.YtlajingmjmnfgaaGreatDoor
namespace Go.Proofs.YtlajingmjmnfgaaGreatDoor
open Go.Sim
def lowT:Str:=[32,108,111,119]
def Qol:Str:=[32,104,105,103,104]
def Qsc:Str:=[114,117,108,101,58]
abbrev Dt:=Int×Str×QM
def ofIx (q:Qe) (f:Qb):Int:=if ((f.Kind==4)&&(f.Of !=([]:Str)))=true then fieldIx q f.Of else -1
def dotN (q:Qe) (f:Qb):Str:=(q.Name++[46])++f.Name
def fldT (i:Nat) (q:Qe) (j:Nat):List Dt:=match q.Fields[j]? with
 | some f=>if ((f.Kind !=2)&&(f.Kind !=4))=true then [] else [((i:Int),dotN q f++lowT,QM.mk (ofIx q f) (j:Int) (i64.wrap (0 - f.Lo))),((i:Int),dotN q f++Qol,QM.mk (j:Int) (ofIx q f) f.Hi)]
 | none=>[]
def kndT (x:Qa) (i:Nat):List Dt:=match x.Kinds[i]? with | some q=>(range q.Fields.length).flatMap (fldT i q) | none=>[]
def rulT (x:Qa) (i:Nat):List Dt:=match x.Rules[i]? with
 | some r=>match idx x.Kinds (kindIx x r.Kind) with | some q=>[(kindIx x r.Kind,Qsc++r.Name,QM.mk (fieldIx q r.A) (fieldIx q r.B) r.N)] | none=>[]
 | none=>[]
def Qap (x:Qa):List Dt:=(range x.Kinds.length).flatMap (kndT x)++(range x.Rules.length).flatMap (rulT x)
def mkD (t:Dt):QH:=⟨t.1,t.2.1,t.2.2⟩
theorem Qpp (i:Nat) (q:Qe) (j:Nat):(fldT i q j).length≤2:=by
 unfold fldT
 cases q.Fields[j]? with
 | none=>simp
 | some f=>dsimp only;split<;>simp
theorem Qjn {x:Qa} (hv:QeU x) (i:Nat):(kndT x i).length≤20:=by
 unfold kndT
 cases hq:x.Kinds[i]? with
 | none=>simp
 | some q=>
  have hf:=(Qcl (hv.kind q (mem_of_getElem? hq))).2.1
  have h1:=Qbm q.Fields.length (fldT i q) 2 fun j _=>Qpp i q j
  dsimp only
  omega
theorem Qlr (x:Qa) (i:Nat):(rulT x i).length≤1:=by
 unfold rulT
 cases x.Rules[i]? with
 | none=>simp
 | some r=>dsimp only;cases idx x.Kinds (kindIx x r.Kind) with | none=>simp | some q=>simp
theorem QgS {x:Qa} (hv:QeU x):(Qap x).length≤136:=by
 unfold Qap
 rw[length_append]
 have h1:=Qbm x.Kinds.length (kndT x) 20 fun j _=>Qjn hv j
 have h2:=Qbm x.Rules.length (rulT x) 1 fun j _=>Qlr x j
 have:=hv.kinds
 have:=hv.rules
 omega
theorem Qus {r:Qj} (h:Qck r=true):r.Name.length≤12:=by
 simp only[Qck,Bool.and_eq_true] at h
 exact Qem h.1.1.1.1.1
theorem Qkh {x:Qa} (hc:QP x=[]) {i:Nat} {r:Qj} (hr:x.Rules[i]?=some r):Qhc x i r=0:=by
 unfold QP at hc
 split at hc
 ·have h:=(append_eq_nil_iff.1 hc).2
  have hi:i<x.Rules.length:=(List.getElem?_eq_some_iff.1 hr).1
  have:=flatMap_eq_nil_iff.1 h i (mem_range.2 hi)
  unfold Qh3 at this
  rw[hr] at this
  exact Qjm this
 ·cases hc
theorem QgT {x:Qa} (hc:QP x=[]) {i:Nat} {r:Qj} (hr:x.Rules[i]?=some r):∃q,0≤kindIx x r.Kind∧idx x.Kinds (kindIx x r.Kind)=some q∧q∈x.Kinds:=by
 have h:=Qkh hc hr
 unfold Qhc at h
 have h2:=(Qb0 (Qb0 h (by decide)).2 (by decide)).1
 simp only[Bool.or_eq_false_iff,decide_eq_false_iff_not] at h2
 have hr:=Qfv x.Kinds fun k=>k.Name==r.Kind
 obtain⟨q,hq,hm⟩:=QgA (l:=x.Kinds) (i:=kindIx x r.Kind) (by omega) hr.2
 exact⟨q,by omega,hq,hm⟩
theorem flat_map' {α β:Type} (g:α→β) (n:Nat) (F:Nat→List α):(range n).flatMap (fun i=>(F i).map g)=((range n).flatMap F).map g:=by rw[map_flatMap]
theorem Qpq {x:Qa} (hs:QeB x) (hc:QP x=[]):QeQ x=some ((Qap x).map mkD):=by
 have hv:=Qal hc
 have hk6:=hv.kinds
 have hr16:=hv.rules
 unfold QeQ
 have hall:((range x.Kinds.length).flatMap (kndT x)).length≤120:=by
  have h1:=Qbm x.Kinds.length (kndT x) 20 fun j _=>Qjn hv j
  omega
 refine (congrArg (Option.bind · _) (QeA x.Kinds.length (fun i=>(kndT x i).map mkD) 20 (fun i _=>by rw[length_map];exact Qjn hv i) [] (fun i hi acc hacc=>?_) (fun acc=>by rw[if_neg (by simp)]))).trans ?_
 ·simp only[length_nil,Nat.zero_add] at hacc
  rw[if_pos (by simpa using hi),QY hi]
  have hK:=hv.kind _ (getElem_mem hi)
  have hf10:=(Qcl hK).2.1
  have hnm:=QnG hK
  simp only[Option.bind_some]
  rw[QeA x.Kinds[i].Fields.length (fun j=>(fldT i x.Kinds[i] j).map mkD) 2 (fun j _=>by rw[length_map];exact Qpp _ _ _) acc (fun j hj p hp=>?_) (fun p=>by rw[if_neg (by simp)])]
  ·simp only[Option.bind_some]
   have e:kndT x i=(range x.Kinds[i].Fields.length).flatMap (fldT i x.Kinds[i]):=by unfold kndT;rw[getElem?_eq_getElem hi]
   rw[e,QK hi (by omega),flat_map']
  ·have hfn:=Qmn ((Qcl hK).2.2 _ (getElem_mem hj))
   rw[if_pos (by simpa using hj),QY hj]
   simp only[Option.bind_some]
   have e:fldT i x.Kinds[i] j=if ((x.Kinds[i].Fields[j].Kind !=2)&&(x.Kinds[i].Fields[j].Kind !=4))=true then [] else [((i:Int),dotN x.Kinds[i] x.Kinds[i].Fields[j]++lowT,QM.mk (ofIx x.Kinds[i] x.Kinds[i].Fields[j]) (j:Int) (i64.wrap (0 - x.Kinds[i].Fields[j].Lo))),((i:Int),dotN x.Kinds[i] x.Kinds[i].Fields[j]++Qol,QM.mk (j:Int) (ofIx x.Kinds[i] x.Kinds[i].Fields[j]) x.Kinds[i].Fields[j].Hi)]:=by
    unfold fldT;rw[getElem?_eq_getElem hj]
   rw[e,QK hj (by omega)]
   cases ((x.Kinds[i].Fields[j].Kind !=2)&&(x.Kinds[i].Fields[j].Kind !=4)) with
   | true=>rw[if_pos rfl,if_pos rfl];simp
   | false=>
    rw[if_neg (show ¬(false=true) by decide),if_neg (show ¬(false=true) by decide)]
    have ho:(if ((x.Kinds[i].Fields[j].Kind==(4:Int))&&(x.Kinds[i].Fields[j].Of !=([]:Str)))=true then (Qc3 x.Kinds[i] x.Kinds[i].Fields[j].Of).bind fun t49=>some t49 else some (-1:Int))=some (ofIx x.Kinds[i] x.Kinds[i].Fields[j]):=by
     unfold ofIx
     split
     ·unfold Qc3;rw[QbU (by omega)];rfl
     ·rfl
    rw[ho]
    simp only[Option.bind_some]
    rw[Qgh (by simp;omega),Qgh (by simp;omega),Qgh (by simp;omega),Qgh (by simp;omega),Qcj (by simp;omega)]
    rfl
 ·simp only[Option.bind_some,nil_append]
  refine (congrArg (Option.bind · _) (QeA x.Rules.length (fun i=>(rulT x i).map mkD) 1 (fun i _=>by rw[length_map];exact Qlr x i) _ (fun i hi acc hacc=>?_) (fun acc=>by rw[if_neg (by simp)]))).trans ?_
  ·rw[flat_map',length_map] at hacc
   obtain⟨q,hq0,hq,hm⟩:=QgT hc (getElem?_eq_getElem hi)
   have hrn:=Qus (hv.rule _ (getElem_mem hi))
   have hK:=hv.kind _ hm
   have hf10:=(Qcl hK).2.1
   rw[if_pos (by simpa using hi),QY hi]
   simp only[Option.bind_some]
   rw[Qcq (by omega)]
   simp only[Option.bind_some]
   rw[hq]
   simp only[Option.bind_some]
   unfold Qc3
   rw[Qgh (by simp;omega),QbU (by omega),QbU (by omega)]
   simp only[Option.bind_some]
   rw[Qcj (by simp;omega),QK hi (by omega)]
   have e:rulT x i=[(kindIx x x.Rules[i].Kind,Qsc++x.Rules[i].Name,QM.mk (fieldIx q x.Rules[i].A) (fieldIx q x.Rules[i].B) x.Rules[i].N)]:=by unfold rulT;rw[getElem?_eq_getElem hi];dsimp only;rw[hq]
   rw[e]
   rfl
  ·simp only[Option.bind_some]
   rw[flat_map',flat_map',←map_append]
   rfl
/-! All names -/
def QcT (x:Qa):List Str:=namL x++(Qap x).map fun t=>t.2.1
def Qmo (x:Qa):List Str×Int:=match QP x with | []=>(QcT x,0) | p::_=>([],p.Code)
theorem Qls {x:Qa} (hv:QeU x):(namL x).length≤132:=by
 unfold namL
 have h1:=Qbm x.Kinds.length (kndN x) 22 fun j _=>(QkK Qg.mk hv j).2
 have:=hv.kinds
 omega
theorem Qut {α:Type} (l:List α) (g:α→Str) (a0:List Str) (h0:a0.length≤1000) (hl:l.length≤1000) {body:Int×List Str→Option ((Int×List Str)⊕List Str)}
  (hs:∀k (h:k<l.length) (acc:List Str),acc.length≤2000→body ((k:Int),acc)=some (.inl (((k+1:Nat):Int),acc++[g l[k]]))) (he:∀acc,body ((l.length:Int),acc)=some (.inr acc)):Qo body ((0:Int),a0)=some (a0++l.map g):=by
 have h:=Qca (body:=body) l.length (fun n=>((n:Int),a0++(l.take n).map g)) (a0++l.map g) (fun k hk=>?_) ?_
 ·simpa using h
 ·rw[hs k hk _ (by simp;omega),←QjC g l hk,append_assoc]
 ·rw[he];simp
theorem Qsd {x:Qa} (h:QeB x):QeK x=some (match QP x with | []=>0 | p::_=>p.Code):=by
 unfold QeK
 rw[Qpm h]
 simp only[Option.bind_some]
 cases QP x with
 | nil=>rfl
 | cons p l=>rw[if_pos (by simp)];rfl
theorem Qpr {x:Qa} (h:QeB x):QeR x=some (Qmo x):=by
 unfold QeR Qmo
 rw[Qsd h,QnH h]
 unfold limR
 cases hc:QP x with
 | cons p l=>
  have:=Qjl (x:=x) (p:=p) (by rw[hc];exact mem_cons_self ..)
  dsimp only[Option.bind_some]
  rw[if_pos (by simpa using this)]
 | nil=>
  have hv:=Qal hc
  dsimp only[Option.bind_some]
  rw[if_neg (by simp),Qpq h hc]
  simp only[Option.bind_some]
  have h1:=Qls hv
  have h2:=QgS hv
  rw[Qut ((Qap x).map mkD) (fun t=>t.name) (namL x) (by omega) (by rw[length_map];omega) (fun k hk acc ha=>?_) (fun acc=>by rw[if_neg (by simp)])]
  ·simp only[Option.bind_some,map_map];rfl
  ·rw[if_pos (by simpa using hk),QY hk]
   simp only[Option.bind_some]
   rw[Qcj (by simp;omega),QK hk (by rw[length_map];omega)]
   rfl
/-! The state -/
def refF (x:Qa) (i:Nat) (q:Qe) (j:Nat):List QE:=match q.Fields[j]? with | some f=>if (f.Kind==1)=true then [QE.mk (i:Int) (upIx x (i:Int) (j:Int))] else [] | none=>[]
def refK (x:Qa) (i:Nat):List QE:=match x.Kinds[i]? with | some q=>(range q.Fields.length).flatMap (refF x i q) | none=>[]
def QfS (x:Qa):List QE:=(range x.Kinds.length).flatMap (refK x)
theorem Qps (x:Qa) (i:Nat) (q:Qe) (j:Nat):(refF x i q j).length≤1:=by
 unfold refF
 cases q.Fields[j]? with
 | none=>simp
 | some f=>dsimp only;split<;>simp
theorem Qpt {x:Qa} (hv:QeU x) (i:Nat):(refK x i).length≤10:=by
 unfold refK
 cases hq:x.Kinds[i]? with
 | none=>simp
 | some q=>
  have hf:=(Qcl (hv.kind q (mem_of_getElem? hq))).2.1
  have h1:=Qbm q.Fields.length (refF x i q) 1 fun j _=>Qps x i q j
  dsimp only
  omega
theorem Quu {x:Qa} (hv:QeU x):(QfS x).length≤60:=by
 unfold QfS
 have h1:=Qbm x.Kinds.length (refK x) 10 fun j _=>Qpt hv j
 have:=hv.kinds
 omega
def Qa4 (x:Qa):QaI:=⟨x,limL Qg.mk x,(Qap x).map mkD,QfS x⟩
theorem Qpu {x:Qa} (h:QeB x) (hc:QP x=[]):QeS x=some (Qa4 x):=by
 have hv:=Qal hc
 have hk6:=hv.kinds
 have hfew:Few x:=h.few
 unfold QeS
 rw[QnH h,Qpq h hc]
 unfold limR
 rw[hc]
 simp only[Option.bind_some]
 refine (congrArg (Option.bind · _) (QeA x.Kinds.length (refK x) 10 (fun i _=>Qpt hv i) [] (fun i hi acc hacc=>?_) (fun acc=>by rw[if_neg (by simp)]))).trans ?_
 ·simp only[length_nil,Nat.zero_add] at hacc
  rw[if_pos (by simpa using hi),QY hi]
  have hf10:=(Qcl (hv.kind _ (getElem_mem hi))).2.1
  simp only[Option.bind_some]
  rw[QeA x.Kinds[i].Fields.length (refF x i x.Kinds[i]) 1 (fun j _=>Qps _ _ _ _) acc (fun j hj p hp=>?_) (fun p=>by rw[if_neg (by simp)])]
  ·simp only[Option.bind_some]
   have e:refK x i=(range x.Kinds[i].Fields.length).flatMap (refF x i x.Kinds[i]):=by unfold refK;rw[getElem?_eq_getElem hi]
   rw[e,QK hi (by omega)]
  ·rw[if_pos (by simpa using hj),QY hj]
   simp only[Option.bind_some]
   have e:refF x i x.Kinds[i] j=if (x.Kinds[i].Fields[j].Kind==1)=true then [QE.mk (i:Int) (upIx x (i:Int) (j:Int))] else []:=by unfold refF;rw[getElem?_eq_getElem hj]
   rw[e,QK hj (by omega)]
   cases (x.Kinds[i].Fields[j].Kind==1) with
   | false=>simp
   | true=>
    rw[if_pos rfl,if_pos rfl,Qgd hfew]
    simp only[Option.bind_some]
    rw[Qcj (by simp;omega)]
    rfl
 ·rfl
end Go.Proofs.YtlajingmjmnfgaaGreatDoor
namespace Go.Proofs.YtlajingmjmnfgaaGreatDoor
open Go.Sim
/-- Numbers that keep limits and references, where some kinds are empty. -/
structure CSol (n:Nat) (P:Qg→Prop) (R:Int→Int→Prop) (E:Int→Prop) (v:List Int):Prop where
 len:v.length=n
 num:∀z∈v,0≤z∧z≤65536
 keep:∀y,P y→Qe0 y v=true
 ref:∀a b,R a b→0<nth v a→0<nth v b
 emp:∀k:Int,0≤k→k<n→E k→nth v k=0
def CSat (n:Nat) (P:Qg→Prop) (R:Int→Int→Prop) (E:Int→Prop):Prop:=∃v,CSol n P R E v
theorem Qhr {v:List Int} {z:Int} (h:z∈v):∃i:Int,0≤i∧i<v.length∧nth v i=z:=by
 obtain⟨k,hk,rfl⟩:=getElem_of_mem h
 exact⟨(k:Int),by omega,by omega,QkF hk⟩
/-- At no place less. -/
def NLe (v x:List Int):Prop:=v.length=x.length∧∀i:Int,0≤i→i<v.length→nth v i≤nth x i
theorem NLe.refl (v:List Int):NLe v v:=⟨rfl,fun _ _ _=>Int.le_refl _⟩
theorem NLe.trans {u v w:List Int} (h:NLe u v) (k:NLe v w):NLe u w:=⟨h.1.trans k.1,fun i h0 h1=>Int.le_trans (h.2 i h0 h1) (k.2 i h0 (by have:=h.1;omega))⟩
theorem QyW {v w:List Int} (hl:v.length=w.length) (h:∀i:Int,0≤i→i<v.length→nth v i=nth w i):v=w:=by
 refine ext_getElem hl fun k h1 h2=>?_
 have:=h (k:Int) (by omega) (by omega)
 rwa [QkF h1,QkF h2] at this
theorem NLe.anti {v w:List Int} (h:NLe v w) (k:NLe w v):v=w:=QyW h.1 fun i h0 h1=>Int.le_antisymm (h.2 i h0 h1) (k.2 i h0 (by have:=h.1;omega))
theorem Quv:∀{v w:List Int},NLe v w→v≠w→v.sum<w.sum:=by
 have le:∀{v w:List Int},NLe v w→v.sum≤w.sum:=by
  intro v
  induction v with
  | nil=>intro w h;have:=h.1;cases w with | nil=>exact Int.le_refl _ | cons _ _=>cases this
  | cons a v ih=>
   intro w h
   cases w with
   | nil=>cases h.1
   | cons b w=>
    have h0:=h.2 0 (by omega) (by simp)
    have h1:NLe v w:=⟨by simpa using h.1,fun i i0 i1=>by
     have:=h.2 (i+1) (by omega) (by simp;omega)
     obtain⟨k,rfl⟩:=Int.eq_ofNat_of_zero_le i0
     simpa[nth,show ((k:Int)+1).toNat=k+1 by omega] using this⟩
    have:=ih h1
    simp only[nth,Int.toNat_zero,getD_cons_zero] at h0
    simp only[sum_cons];omega
 intro v
 induction v with
 | nil=>intro w h hne;have:=h.1;cases w with | nil=>exact absurd rfl hne | cons _ _=>cases this
 | cons a v ih=>
  intro w h hne
  cases w with
  | nil=>cases h.1
  | cons b w=>
   have h0:=h.2 0 (by omega) (by simp)
   have h1:NLe v w:=⟨by simpa using h.1,fun i i0 i1=>by
    have:=h.2 (i+1) (by omega) (by simp;omega)
    obtain⟨k,rfl⟩:=Int.eq_ofNat_of_zero_le i0
    simpa[nth,show ((k:Int)+1).toNat=k+1 by omega] using this⟩
   simp only[nth,Int.toNat_zero,getD_cons_zero] at h0
   simp only[sum_cons]
   by_cases e:v=w
   ·subst e
    have:a≠b:=fun e=>hne (by rw[e])
    omega
   ·have:=ih h1 e
    omega
/-- A number is raised. -/
def up1 (v:List Int) (k m:Int):List Int:=if nth v k<m then v.set k.toNat m else v
theorem Qch (v:List Int) (k m:Int):(up1 v k m).length=v.length:=by unfold up1;split<;>simp
theorem Qhs {v:List Int} {k m i:Int} (k0:0≤k) (k1:k<v.length) (i0:0≤i):nth (up1 v k m) i=if k=i then max (nth v k) m else nth v i:=by
 unfold up1
 split
 ·rw[Qq8 k0 i0 k1];split
  ·omega
  ·rfl
 ·split
  ·next e=>subst e;omega
  ·rfl
theorem QgU {v:List Int} {k m:Int} (k0:0≤k) (k1:k<v.length):NLe v (up1 v k m):=⟨(Qch v k m).symm,fun i i0 i1=>by
 rw[Qhs k0 k1 i0];split
 ·next e=>subst e;omega
 ·exact Int.le_refl _⟩
theorem Qlt {v:List Int} {k m:Int} (k0:0≤k) (k1:k<v.length):up1 v k m=v↔m≤nth v k:=by
 constructor
 ·intro h
  have:=Qhs (m:=m) k0 k1 k0
  rw[h,if_pos rfl] at this;omega
 ·intro h;unfold up1;rw[if_neg (by omega)]
/-- What is known between two steps. -/
structure CInv (n:Nat) (P:Qg→Prop) (R:Int→Int→Prop) (E:Int→Prop) (v:List Int):Prop where
 len:v.length=n
 nn:∀z∈v,0≤z∧z≤9223372036854775807
 reg:((∀z∈v,z≤65536)∧∀x,CSol n P R E x→NLe v x)∨((∃z∈v,65536<z)∧¬CSat n P R E)
section
variable {n:Nat} {P:Qg→Prop} {R:Int→Int→Prop} {E:Int→Prop} {v:List Int}
theorem CInv.at (h:CInv n P R E v) {i:Int} (i0:0≤i) (i1:i<n):0≤nth v i∧nth v i≤9223372036854775807:=h.nn _ (Qb8 i0 (by rw[h.len];exact i1))
theorem CInv.up (h:CInv n P R E v) {k m:Int} (k0:0≤k) (k1:k<n) (hm:m≤9223372036854775807) (hs:(∀z∈v,0≤z∧z≤65536)→∀x,CSol n P R E x→NLe v x→m≤nth x k):CInv n P R E (up1 v k m):=by
 have k1':k<v.length:=by rw[h.len];exact k1
 have hk:=h.at k0 k1
 have hnn:∀z∈up1 v k m,0≤z∧z≤9223372036854775807:=fun z hz=>by
  obtain⟨i,i0,i1,rfl⟩:=Qhr hz
  rw[Qch,h.len] at i1
  rw[Qhs k0 k1' i0]
  have:=h.at i0 i1
  split<;>omega
 refine⟨(Qch v k m).trans h.len,hnn,?_⟩
 rcases h.reg with⟨h1,h2⟩ | ⟨⟨z,hz,hlt⟩,h2⟩
 ·have hx:∀x,CSol n P R E x→NLe (up1 v k m) x:=fun x hx=>by
   have hle:=h2 x hx
   have hmx:=hs (fun z hz=>⟨(h.nn z hz).1,h1 z hz⟩) x hx hle
   refine⟨(Qch v k m).trans hle.1,fun i i0 i1=>?_⟩
   rw[Qch] at i1
   rw[Qhs k0 k1' i0]
   have:=hle.2 i i0 i1
   split
   ·next e=>subst e;omega
   ·exact this
  by_cases hb:∀z∈up1 v k m,z≤65536
  ·exact .inl ⟨hb,hx⟩
  ·refine .inr ?_
   have hb':∃z∈up1 v k m,65536<z:=Classical.byContradiction fun hc=>hb fun z hz=>Int.not_lt.1 fun hl=>hc ⟨z,hz,hl⟩
   refine⟨hb',fun⟨x,hsx⟩=>?_⟩
   obtain⟨z,hz,hlt⟩:=hb'
   obtain⟨i,i0,i1,rfl⟩:=Qhr hz
   have h3:=(hx x hsx).2 i i0 i1
   have h4:=(hsx.num _ (Qb8 i0 (by rw[←(hx x hsx).1];exact i1))).2
   omega
 ·refine .inr ⟨?_,h2⟩
  obtain⟨i,i0,i1,rfl⟩:=Qhr hz
  refine⟨nth (up1 v k m) i,Qb8 i0 (by rw[Qch];exact i1),?_⟩
  rw[Qhs k0 k1' i0]
  split
  ·next e=>subst e;omega
  ·exact hlt
theorem CInv.zero:CInv n P R E (replicate n 0):=by
 refine⟨by simp,fun z hz=>by rw[(mem_replicate.1 hz).2];omega,.inl ⟨fun z hz=>by rw[(mem_replicate.1 hz).2];omega,fun x hx=>⟨by rw[length_replicate,hx.len],fun i i0 i1=>?_⟩⟩⟩
 rw[length_replicate] at i1
 have h1:nth (replicate n 0) i=0:=(mem_replicate.1 (Qb8 i0 (by rw[length_replicate];exact i1))).2
 rw[h1]
 exact (hx.num _ (Qb8 i0 (by rw[hx.len];exact i1))).1
/-! What a limit demands -/
def rsO (y:Qg) (v:List Int):Int:=if y.B≥0 then nth v y.B else 1
def rsF (y:Qg):Bool:=decide (y.B<0)||(y.Mul==0)
def rsK (y:Qg):Int:=if y.Least=true then y.A else if rsF y=true then y.A else y.B
def rsN (y:Qg) (v:List Int):Int:=if y.Least=true then i64.wrap (y.Mul * rsO y v) else if rsF y=true then 0 else i64.wrap (Int.tdiv (i64.wrap (i64.wrap (nth v y.A+y.Mul) - 1)) y.Mul)
def rsB (y:Qg) (v:List Int):Bool:=if y.Least=true then true else if rsF y=true then decide (nth v y.A≤y.Mul) else true
theorem rsN_le (y:Qg) (v:List Int):rsN y v≤9223372036854775807:=by
 unfold rsN
 split
 ·exact (Qnx _).2
 ·split
  ·omega
  ·exact (Qnx _).2
theorem QiI {y:Qg} (hy:VL y n):0≤rsK y∧rsK y<n:=by
 have:=hy.a0;have:=hy.a1;have:=hy.b1
 unfold rsK
 split
 ·exact⟨hy.a0,hy.a1⟩
 ·split
  ·exact⟨hy.a0,hy.a1⟩
  ·next h=>simp only[rsF,Bool.or_eq_true,decide_eq_true_eq,not_or] at h;exact⟨by omega,hy.b1⟩
theorem Qpv {y:Qg} (hy:VL y n) (hv:∀z∈v,0≤z∧z≤65536) (hl:v.length=n) (hL:y.Least=true):rsN y v=if y.B<0 then y.Mul else y.Mul * nth v y.B:=by
 have:=hy.m0;have:=hy.m1;have:=hy.b0;have:=hy.b1
 unfold rsN rsO
 rw[if_pos hL]
 by_cases hb:y.B<0
 ·rw[if_neg (by omega),if_pos hb,Int.mul_one,w64 (by omega) (by omega)]
 ·have h:=hv _ (Qb8 (by omega) (by rw[hl];exact hy.b1):nth v y.B∈v)
  have hm:=QyJ hy.m0 hy.m1 h.1 h.2
  rw[if_pos (by omega),if_neg hb,w64 (by omega) (by omega)]
theorem Qre {y:Qg} (hy:VL y n) (hv:∀z∈v,0≤z∧z≤65536) (hl:v.length=n) (hL:¬y.Least=true) (hF:¬rsF y=true):rsN y v=(nth v y.A+y.Mul - 1) / y.Mul∧0<y.Mul∧0≤y.B:=by
 have:=hy.m0;have:=hy.m1;have:=hy.b0;have:=hy.b1
 have hF':=hF
 simp only[rsF,Bool.or_eq_true,decide_eq_true_eq,beq_iff_eq,not_or] at hF'
 have h:=hv _ (Qb8 hy.a0 (by rw[hl];exact hy.a1):nth v y.A∈v)
 refine⟨?_,by omega,by omega⟩
 unfold rsN
 rw[if_neg hL,if_neg hF,w64 (n:=nth v y.A+y.Mul) (by omega) (by omega),w64 (n:=nth v y.A+y.Mul - 1) (by omega) (by omega),Int.tdiv_eq_ediv_of_nonneg (by omega)]
 have h0:0≤(nth v y.A+y.Mul - 1) / y.Mul:=Int.ediv_nonneg (by omega) (by omega)
 have h1:(nth v y.A+y.Mul - 1) / y.Mul≤nth v y.A+y.Mul - 1:=Int.ediv_le_self _ (by omega)
 rw[w64 (by omega) (by omega)]
theorem rs_le {y:Qg} (hy:VL y n) (hP:P y) (hl:v.length=n) (hv:∀z∈v,0≤z∧z≤65536) {x:List Int} (hx:CSol n P R E x) (hle:NLe v x):rsN y v≤nth x (rsK y):=by
 have:=hy.m0;have:=hy.m1;have:=hy.b0;have:=hy.b1;have:=hy.a0;have:=hy.a1
 have hk:=hx.keep y hP
 unfold Qe0 bndS at hk
 by_cases hL:y.Least=true
 ·rw[Qpv hy hv hl hL]
  unfold rsK
  rw[if_pos hL] at hk ⊢
  by_cases hb:y.B<0
  ·rw[if_pos hb] at hk ⊢;simpa using hk
  ·rw[if_neg hb] at hk ⊢
   have h1:y.Mul * nth v y.B≤y.Mul * nth x y.B:=Int.mul_le_mul_of_nonneg_left (hle.2 _ (by omega) (by rw[hl];exact hy.b1)) hy.m0
   have h2:nth x y.A≥y.Mul * nth x y.B:=of_decide_eq_true hk
   omega
 ·rw[if_neg hL] at hk
  by_cases hF:rsF y=true
  ·unfold rsN rsK
   rw[if_neg hL,if_neg hL,if_pos hF,if_pos hF]
   exact (hx.num _ (Qb8 hy.a0 (by rw[hx.len];exact hy.a1))).1
  ·obtain⟨e,h1,h2⟩:=Qre hy hv hl hL hF
   rw[e]
   unfold rsK
   rw[if_neg hL,if_neg hF]
   rw[if_neg (by omega)] at hk
   have hk:nth x y.A≤y.Mul * nth x y.B:=of_decide_eq_true hk
   have h3:=hle.2 _ hy.a0 (by rw[hl];exact hy.a1)
   exact (QkG h1).2 (by omega)
theorem rs_bad {y:Qg} (hy:VL y n) (hP:P y) (h:CInv n P R E v) (hb:rsB y v=false):¬CSat n P R E:=by
 rcases h.reg with⟨h1,h2⟩ | ⟨_,h2⟩
 ·rintro ⟨x,hx⟩
  have:=hy.a0;have:=hy.a1
  unfold rsB at hb
  split at hb
  ·cases hb
  ·next hL=>
   split at hb
   ·next hF=>
    have hlt:=of_decide_eq_false hb
    have hle:=(h2 x hx).2 _ hy.a0 (by rw[h.len];exact hy.a1)
    have hk:=hx.keep y hP
    unfold Qe0 bndS at hk
    rw[if_neg hL] at hk
    simp only[rsF,Bool.or_eq_true,decide_eq_true_eq,beq_iff_eq] at hF
    by_cases hB:y.B<0
    ·rw[if_pos hB] at hk
     have:=of_decide_eq_true hk
     omega
    ·have hm:y.Mul=0:=by omega
     rw[if_neg hB,hm,Int.zero_mul] at hk
     have:=of_decide_eq_true hk
     omega
   ·cases hb
 ·exact h2
theorem QyX {y:Qg} (hy:VL y n) (hl:v.length=n) (hv:∀z∈v,0≤z∧z≤65536) (hb:rsB y v=true) (hd:rsN y v≤nth v (rsK y)):Qe0 y v=true:=by
 have:=hy.m0;have:=hy.b0
 unfold Qe0 bndS
 by_cases hL:y.Least=true
 ·rw[Qpv hy hv hl hL] at hd
  unfold rsK at hd
  rw[if_pos hL] at hd ⊢
  by_cases hB:y.B<0
  ·rw[if_pos hB] at hd ⊢;exact decide_eq_true hd
  ·rw[if_neg hB] at hd ⊢;exact decide_eq_true hd
 ·rw[if_neg hL]
  by_cases hF:rsF y=true
  ·unfold rsB at hb
   rw[if_neg hL,if_pos hF] at hb
   have hle:=of_decide_eq_true hb
   simp only[rsF,Bool.or_eq_true,decide_eq_true_eq,beq_iff_eq] at hF
   by_cases hB:y.B<0
   ·rw[if_pos hB];exact decide_eq_true hle
   ·have hm:y.Mul=0:=by omega
    rw[if_neg hB,hm,Int.zero_mul]
    exact decide_eq_true (by omega)
  ·obtain⟨e,h1,h2⟩:=Qre hy hv hl hL hF
   rw[e] at hd
   unfold rsK at hd
   rw[if_neg hL,if_neg hF] at hd
   rw[if_neg (by omega)]
   exact decide_eq_true ((QkG h1).1 hd)
/-! One round -/
def rndL:List Qg→List Int→Option (List Int)
 | [],v=>some v
 | y::l,v=>if rsB y v=true then rndL l (up1 v (rsK y) (rsN y v)) else none
def rndR:List (Int×Int)→List Int→List Int
 | [],v=>v
 | r::l,v=>rndR l (up1 v r.2 (imin 1 (nth v r.1)))
theorem Qrf:∀(l:List Qg) (v:List Int),(∀y∈l,VL y n∧P y)→CInv n P R E v→(∀w,rndL l v=some w→CInv n P R E w∧NLe v w)∧(rndL l v=none→¬CSat n P R E)
 | [],v,_,hv=>⟨fun w hw=>by obtain rfl:=Option.some.inj hw;exact⟨hv,NLe.refl _⟩,fun h=>nomatch h⟩
 | y::l,v,hl,hv=>by
  obtain⟨hy,hP⟩:=hl y (mem_cons_self ..)
  have hk:=QiI hy
  unfold rndL
  by_cases hb:rsB y v=true
  ·rw[if_pos hb]
   have hu:CInv n P R E (up1 v (rsK y) (rsN y v)):=hv.up hk.1 hk.2 (rsN_le y v) fun hn x hx hle=>rs_le hy hP hv.len hn hx hle
   obtain⟨h1,h2⟩:=Qrf l _ (fun z hz=>hl z (mem_cons_of_mem _ hz)) hu
   exact⟨fun w hw=>⟨(h1 w hw).1,(QgU hk.1 (by rw[hv.len];exact hk.2)).trans (h1 w hw).2⟩,h2⟩
  ·rw[if_neg hb]
   exact⟨fun w hw=>(nomatch hw),fun _=>rs_bad hy hP hv (by simpa using hb)⟩
theorem Qrg:∀(l:List (Int×Int)) (v:List Int),(∀r∈l,(0≤r.1∧r.1<n)∧(0≤r.2∧r.2<n)∧R r.1 r.2)→CInv n P R E v→CInv n P R E (rndR l v)∧NLe v (rndR l v)
 | [],v,_,hv=>⟨hv,NLe.refl _⟩
 | r::l,v,hl,hv=>by
  obtain⟨ha,hb,hR⟩:=hl r (mem_cons_self ..)
  have hu:CInv n P R E (up1 v r.2 (imin 1 (nth v r.1))):=hv.up hb.1 hb.2 (by unfold imin;split<;>omega) fun hn x hx hle=>by
   have h1:=hle.2 r.1 ha.1 (by rw[hv.len];exact ha.2)
   have h2:=hx.ref r.1 r.2 hR
   have h3:=(hx.num _ (Qb8 hb.1 (by rw[hx.len];exact hb.2))).1
   have h4:=(hn _ (Qb8 ha.1 (by rw[hv.len];exact ha.2))).1
   unfold imin
   split<;>omega
  obtain⟨h1,h2⟩:=Qrg l _ (fun z hz=>hl z (mem_cons_of_mem _ hz)) hu
  unfold rndR
  exact⟨h1,(QgU hb.1 (by rw[hv.len];exact hb.2)).trans h2⟩
theorem QiJ:∀(l:List Qg) (v w:List Int),(∀y∈l,VL y n)→v.length=n→rndL l v=some w→NLe v w
 | [],v,w,_,_,h=>by obtain rfl:=Option.some.inj h;exact NLe.refl _
 | y::l,v,w,hl,hv,h=>by
  have hk:=QiI (hl y (mem_cons_self ..))
  unfold rndL at h
  split at h
  ·exact (QgU hk.1 (by rw[hv];exact hk.2)).trans (QiJ l _ w (fun z hz=>hl z (mem_cons_of_mem _ hz)) ((Qch ..).trans hv) h)
  ·cases h
theorem QiK:∀(l:List (Int×Int)) (v:List Int),(∀r∈l,0≤r.2∧r.2<n)→v.length=n→NLe v (rndR l v)
 | [],v,_,_=>NLe.refl _
 | r::l,v,hl,hv=>by
  have hk:=hl r (mem_cons_self ..)
  exact (QgU hk.1 (by rw[hv];exact hk.2)).trans (QiK l _ (fun z hz=>hl z (mem_cons_of_mem _ hz)) ((Qch ..).trans hv))
theorem Qpw:∀(l:List Qg) (v:List Int),(∀y∈l,VL y n)→v.length=n→rndL l v=some v→∀y∈l,rsB y v=true∧rsN y v≤nth v (rsK y)
 | [],_,_,_,_=>by simp
 | y::l,v,hl,hv,h=>by
  have hk:=QiI (hl y (mem_cons_self ..))
  have hk2:rsK y<v.length:=by rw[hv];exact hk.2
  unfold rndL at h
  split at h
  ·next hb=>
   have h1:=QgU (m:=rsN y v) hk.1 hk2
   have h2:=QiJ l _ v (fun z hz=>hl z (mem_cons_of_mem _ hz)) ((Qch ..).trans hv) h
   have e:=(h1.anti h2).symm
   rw[e] at h
   have ih:=Qpw l v (fun z hz=>hl z (mem_cons_of_mem _ hz)) hv h
   intro z hz
   rcases mem_cons.1 hz with rfl | hz
   ·exact⟨hb,(Qlt hk.1 hk2).1 e⟩
   ·exact ih z hz
  ·cases h
theorem Qpx:∀(l:List (Int×Int)) (v:List Int),(∀r∈l,0≤r.2∧r.2<n)→v.length=n→rndR l v=v→∀r∈l,imin 1 (nth v r.1)≤nth v r.2
 | [],_,_,_,_=>by simp
 | r::l,v,hl,hv,h=>by
  have hk:=hl r (mem_cons_self ..)
  have hk2:r.2<v.length:=by rw[hv];exact hk.2
  unfold rndR at h
  have h1:=QgU (m:=imin 1 (nth v r.1)) hk.1 hk2
  have h2:=QiK l (up1 v r.2 (imin 1 (nth v r.1))) (fun z hz=>hl z (mem_cons_of_mem _ hz)) ((Qch ..).trans hv)
  rw[h] at h2
  have e:=(h1.anti h2).symm
  rw[e] at h
  have ih:=Qpx l v (fun z hz=>hl z (mem_cons_of_mem _ hz)) hv h
  intro z hz
  rcases mem_cons.1 hz with rfl | hz
  ·exact (Qlt hk.1 hk2).1 e
  ·exact ih z hz
end
def rnd (l:List Qg) (r:List (Int×Int)) (v:List Int):Option (List Int):=(rndL l v).map (rndR r)
def over (E:Int→Bool) (n:Nat) (v:List Int):Bool:=(range n).any fun k=>decide (65536<nth v (k:Int))||(decide (0<nth v (k:Int))&&E (k:Int))
/-- What both programs reckon: round after round; the third part counts what is left. -/
def Qhe (E:Int→Bool) (n:Nat) (l:List Qg) (r:List (Int×Int)):Nat→List Int→Bool
 | 0,_=>false
 | f+1,v=>match rnd l r v with
  | none=>false
  | some w=>if over E n w=true then false else if w=v then true else Qhe E n l r f w
theorem Qjo {E:Int→Bool} {n:Nat} {v:List Int}:over E n v=false↔∀k:Int,0≤k→k<n→nth v k≤65536∧(0<nth v k→E k=false):=by
 unfold over
 rw[any_eq_false]
 constructor
 ·intro h k k0 k1
  obtain⟨j,rfl⟩:=Int.eq_ofNat_of_zero_le k0
  have:=h j (mem_range.2 (by omega))
  simp only[Bool.or_eq_true,Bool.and_eq_true,decide_eq_true_eq,not_or,not_and] at this
  exact⟨by omega,fun hp=>by simpa using this.2 hp⟩
 ·intro h j hj
  have:=h (j:Int) (by omega) (by have:=mem_range.1 hj;omega)
  simp only[Bool.or_eq_true,Bool.and_eq_true,decide_eq_true_eq,not_or,not_and]
  exact⟨by omega,fun hp=>by simp[this.2 hp]⟩
theorem Qpy:∀(v:List Int),(∀z∈v,0≤z∧z≤65536)→0≤v.sum∧v.sum≤65536 * v.length
 | [],_=>by simp
 | z::v,h=>by
  have:=Qpy v fun y hy=>h y (mem_cons_of_mem _ hy)
  have:=h z (mem_cons_self ..)
  simp only[sum_cons,length_cons];omega
section
variable {n:Nat} {E:Int→Bool} {l:List Qg} {r:List (Int×Int)}
theorem QnI (hl:∀y∈l,VL y n) (hr:∀p∈r,(0≤p.1∧p.1<n)∧(0≤p.2∧p.2<n)):∀(f:Nat) (v:List Int),CInv n (fun y=>y∈l) (fun a b=>(a,b)∈r) (fun k=>E k=true) v→(∀z∈v,0≤z∧z≤65536)→65536 * (n:Int) - v.sum<f→
  (Qhe E n l r f v=true↔CSat n (fun y=>y∈l) (fun a b=>(a,b)∈r) (fun k=>E k=true))
 | 0,v,hv,hz,hf=>by have:=Qpy v hz;rw[hv.len] at this;omega
 | f+1,v,hv,hz,hf=>by
  obtain⟨h1,h2⟩:=Qrf (R:=fun a b=>(a,b)∈r) (E:=fun k=>E k=true) l v (fun y hy=>⟨hl y hy,hy⟩) hv
  unfold Qhe rnd
  cases hL:rndL l v with
  | none=>simp only[Option.map_none];exact⟨fun h=>(nomatch h),fun h=>absurd h (h2 hL)⟩
  | some u=>
   simp only[Option.map_some]
   obtain⟨hu,hvu⟩:=h1 u hL
   obtain⟨hw,huw⟩:=Qrg r u (fun p hp=>⟨(hr p hp).1,(hr p hp).2,hp⟩) hu
   have hvw:=hvu.trans huw
   cases ho:over E n (rndR r u) with
   | true=>
    rw[if_pos rfl]
    refine⟨fun h=>(nomatch h),fun hs=>?_⟩
    exfalso
    have:¬over E n (rndR r u)=false:=by rw[ho];simp
    refine this (Qjo.2 fun k k0 k1=>?_)
    rcases hw.reg with⟨g1,g2⟩ | ⟨_,g2⟩
    ·obtain⟨x,hx⟩:=hs
     refine⟨g1 _ (Qb8 k0 (by rw[hw.len];exact k1)),fun hp=>?_⟩
     have hle:=(g2 x hx).2 k k0 (by rw[hw.len];exact k1)
     cases hE:E k with
     | false=>rfl
     | true=>have:=hx.emp k k0 k1 hE;omega
    ·exact absurd hs g2
   | false=>
    rw[if_neg (by simp)]
    have hov:=Qjo.1 ho
    have hz':∀z∈rndR r u,0≤z∧z≤65536:=fun z hz=>by
     obtain⟨i,i0,i1,rfl⟩:=Qhr hz
     rw[hw.len] at i1
     exact⟨(hw.at i0 i1).1,(hov i i0 i1).1⟩
    by_cases he:rndR r u=v
    ·rw[if_pos he]
     refine⟨fun _=>?_,fun _=>rfl⟩
     have e1:u=v:=(hvu.anti (by rw[he] at huw;exact huw)).symm
     subst e1
     rw[he] at hov
     have fL:=Qpw l u hl hv.len hL
     have fR:=Qpx r u (fun p hp=>(hr p hp).2) hv.len he
     refine⟨u,hv.len,hz,fun y hy=>QyX (hl y hy) hv.len hz (fL y hy).1 (fL y hy).2,fun a b hab hp=>?_,fun k k0 k1 hE=>?_⟩
     ·have:=fR (a,b) hab
      unfold imin at this
      dsimp only at this
      split at this<;>omega
     ·have h0:=(hz _ (Qb8 k0 (by rw[hv.len];exact k1))).1
      have h3:=(hov k k0 k1).2
      by_cases hp:0<nth u k
      ·rw[h3 hp] at hE;cases hE
      ·omega
    ·rw[if_neg he]
     have:=Quv hvw fun e=>he e.symm
     exact QnI hl hr f _ hw hz' (by omega)
end
/-- Whether limits can be kept. -/
def Qhf (E:Int→Bool) (n:Nat) (l:List Qg) (r:List (Int×Int)):Bool:=Qhe E n l r (65536 * n+1) (replicate n 0)
theorem Qpz (n:Nat):(replicate n (0:Int)).sum=0:=by
 induction n with
 | zero=>rfl
 | succ n ih=>rw[replicate_succ,sum_cons,ih];rfl
theorem Qh5 {n:Nat} {E:Int→Bool} {l:List Qg} {r:List (Int×Int)} (hl:∀y∈l,VL y n) (hr:∀p∈r,(0≤p.1∧p.1<n)∧(0≤p.2∧p.2<n)):
  Qhf E n l r=true↔CSat n (fun y=>y∈l) (fun a b=>(a,b)∈r) (fun k=>E k=true):=
 QnI hl hr _ _ CInv.zero (fun z hz=>by rw[(mem_replicate.1 hz).2];omega) (by rw[Qpz];omega)
/-- A loop that goes round after round. -/
theorem Quw {n:Nat} {E:Int→Bool} {l:List Qg} {r:List (Int×Int)} (hl:∀y∈l,VL y n) (hr:∀p∈r,(0≤p.1∧p.1<n)∧(0≤p.2∧p.2<n)) {ρ:Type} {body:List Int→Option (List Int⊕ρ)} (o:Bool→ρ)
  (hb:∀v:List Int,v.length=n→(∀z∈v,0≤z∧z≤65536)→body v=some (match rnd l r v with | none=>.inr (o false) | some w=>if over E n w=true then .inr (o false) else if w=v then .inr (o true) else .inl w)):
  Qo body (replicate n 0)=some (o (Qhf E n l r)):=by
 have key:∀(f:Nat) (v:List Int),v.length=n→(∀z∈v,0≤z∧z≤65536)→65536 * (n:Int) - v.sum<f→Qo body v=some (o (Qhe E n l r f v)):=by
  intro f
  induction f with
  | zero=>intro v hv hz hf;have:=Qpy v hz;rw[hv] at this;omega
  | succ f ih=>
   intro v hv hz hf
   rw[Qan,hb v hv hz]
   unfold Qhe
   cases hR:rnd l r v with
   | none=>rfl
   | some w=>
    dsimp only
    cases ho:over E n w with
    | true=>rfl
    | false=>
     by_cases he:w=v
     ·simp only[if_pos he,Bool.false_eq_true,if_false]
     ·simp only[if_neg he,Bool.false_eq_true,if_false]
      unfold rnd at hR
      cases hL:rndL l v with
      | none=>rw[hL] at hR;cases hR
      | some u=>
       rw[hL] at hR
       obtain rfl:=Option.some.inj hR
       have h1:=QiJ l v u hl hv hL
       have h2:=QiK r u (fun p hp=>(hr p hp).2) (h1.1.symm.trans hv)
       have h3:=h1.trans h2
       have hov:=Qjo.1 ho
       have hw:(rndR r u).length=n:=h3.1.symm.trans hv
       refine ih _ hw (fun z hz'=>?_) (by have:=Quv h3 fun e=>he e.symm;omega)
       obtain⟨i,i0,i1,rfl⟩:=Qhr hz'
       rw[hw] at i1
       have h4:=h3.2 i i0 (by rw[hv];exact i1)
       have h5:=(hz _ (Qb8 i0 (by rw[hv];exact i1))).1
       exact⟨by omega,(hov i i0 i1).1⟩
 exact key _ _ (by simp) (fun z hz=>by rw[(mem_replicate.1 hz).2];omega) (by rw[Qpz];omega)
end Go.Proofs.YtlajingmjmnfgaaGreatDoor
namespace Go.Proofs.YtlajingmjmnfgaaGreatDoor
open Go.Sim
/-! Searches -/
/-! The greatest and the least of a list -/
/-! Tables -/
end Go.Proofs.YtlajingmjmnfgaaGreatDoor
namespace Go.Proofs.YtlajingmjmnfgaaGreatDoor
open Go.Sim
def upd1 {α:Type} (R:Nat→α) (k:Nat) (v:α):Nat→α:=fun q=>if q=k then v else R q
theorem QdL {α:Type} {R:Nat→α} {k:Nat} {v:α}:upd1 R k v k=v:=if_pos rfl
def rowL {α:Type} (m:Nat) (R:Nat→α):List α:=(range m).map R
theorem Qlu {α:Type} {m:Nat} {R:Nat→α}:(rowL m R).length=m:=by simp[rowL]
theorem QfZ {α:Type} {m:Nat} {R:Nat→α} {k:Nat} (h:k<m):idx (rowL m R) (k:Int)=some (R k):=by
 rw[QY (by rw[Qlu];exact h)];simp[rowL]
theorem QpA {α:Type} {m:Nat} {R:Nat→α} {k:Nat} (h:k<m) (v:α):setAt (rowL m R) (k:Int) v=some (rowL m (upd1 R k v)):=by
 rw[QbL (by rw[Qlu];exact h)]
 congr 1
 apply ext_getElem
 ·simp[rowL]
 ·intro i h1 h2
  simp only[rowL,getElem_set,getElem_map,getElem_range,upd1]
  by_cases hi:k=i
  ·rw[if_pos hi,if_pos hi.symm]
  ·rw[if_neg hi,if_neg (fun h=>hi h.symm)]
abbrev INF:Int:=1099511627776
/-! Ways -/
structure Ed where
 a:Nat
 b:Nat
 w:Int
/-! One row through one value -/
theorem QgC (a b:Int):imin a b≤a∧imin a b≤b∧(imin a b=a∨imin a b=b):=by unfold imin;split<;>omega
end Go.Proofs.YtlajingmjmnfgaaGreatDoor
namespace Go.Proofs.YtlajingmjmnfgaaGreatDoor
open Go.Sim
end Go.Proofs.YtlajingmjmnfgaaGreatDoor
namespace Go.Proofs.YtlajingmjmnfgaaGreatDoor
open Go.Sim
theorem Qse (n:Nat) (p:Nat→Bool) (h:∃k,k<n∧p k=true):∃k,k<n∧p k=true∧∀j,j<k→p j=false:=by
 induction n with
 | zero=>obtain⟨k,hk,_⟩:=h;omega
 | succ n ih=>
  by_cases h2:∃k,k<n∧p k=true
  ·obtain⟨k,hk,hp,hm⟩:=ih h2
   exact⟨k,by omega,hp,hm⟩
  ·obtain⟨k,hk,hp⟩:=h
   have hkn:k=n:=by
    rcases Nat.lt_or_ge k n with h3 | h3
    ·exact (h2 ⟨k,h3,hp⟩).elim
    ·omega
   subst hkn
   refine⟨k,hk,hp,fun j hj=>?_⟩
   rw[←Bool.not_eq_true]
   exact fun h3=>h2 ⟨j,hj,h3⟩
/-! Which differences are valid -/
def badD (n:Int) (d:QM):Bool:=((((((decide (d.A< -1)||decide (d.A≥n))||decide (d.B< -1))||decide (d.B≥n))||d.A==d.B)||decide (d.N< -2097152))||decide (d.N>2097152))
def Qbu (n:Int) (l:List QM):Int:=if (decide (n>10)||decide ((l.length:Int)>64))=true then 4 else if decide (n<0)=true then 1 else if l.any (badD n)=true then 1 else 0
theorem valid0 {n:Int} {l:List QM} (h:Qbu n l=0):0≤n∧n≤10∧l.length≤64∧∀d∈l,-1≤d.A∧d.A<n∧-1≤d.B∧d.B<n∧d.A≠d.B∧-2097152≤d.N∧d.N≤2097152:=by
 unfold Qbu at h
 split at h
 ·cases h
 ·rename_i h1
  split at h
  ·cases h
  ·rename_i h2
   split at h
   ·cases h
   ·rename_i h3
    simp only[Bool.or_eq_true,decide_eq_true_eq,not_or] at h1 h2
    refine⟨by omega,by omega,by omega,fun d hd=>?_⟩
    have:badD n d=false:=by
     rw[←Bool.not_eq_true]
     intro hb
     exact h3 (any_eq_true.2 ⟨d,hd,hb⟩)
    simp only[badD,Bool.or_eq_false_iff,decide_eq_false_iff_not,beq_eq_false_iff_ne,ne_eq] at this
    obtain⟨⟨⟨⟨⟨⟨a1,a2⟩,a3⟩,a4⟩,a5⟩,a6⟩,a7⟩:=this
    exact⟨by omega,by omega,by omega,by omega,a5,by omega,by omega⟩
/-! Edges -/
/-- The row of a value, of m rows. -/
def rowN (m:Nat) (a:Int):Nat:=if a<0 then m - 1 else a.toNat
def edN (m:Nat) (d:QM):Ed:=⟨rowN m d.A,rowN m d.B,d.N⟩
def edS (m:Nat) (d:QM):QU:=⟨(rowN m d.A:Int),(rowN m d.B:Int),d.N⟩
theorem QkL {m:Nat} {a:Int} (h1:-1≤a) (h2:a<(m:Int) - 1):rowN m a<m:=by unfold rowN;split<;>omega
theorem Qrh {m:Nat} {a:Int} (hm:1≤m) (hm2:m≤11) (h1:-1≤a) (h2:a<(m:Int) - 1):Int.tmod (i64.wrap (i64.wrap (a+((m:Int) - 1))+1)) (m:Int)=(rowN m a:Int):=by
 rw[w64 (n:=a+((m:Int) - 1)) (by omega) (by omega),w64 (by omega) (by omega)]
 unfold rowN
 split
 ·have:a=-1:=by omega
  subst this
  rw[Int.tmod_eq_emod_of_nonneg (by omega),Int.emod_eq_of_lt (by omega) (by omega)];omega
 ·rw[Int.tmod_eq_emod_of_nonneg (by omega)]
  have:a+((m:Int) - 1)+1=a+m:=by omega
  rw[this,Int.add_emod_right,Int.emod_eq_of_lt (by omega) (by omega)];omega
theorem Qki (n:Int) (d:QM):(((((decide (imin d.A d.B< -1))||(decide (imax d.A d.B≥n)))||(d.A==d.B))||(decide (d.N< -2097152)))||(decide (d.N>2097152)))=badD n d:=by
 have e:(decide (imin d.A d.B< -1)||decide (imax d.A d.B≥n))=((decide (d.A< -1)||decide (d.A≥n))||decide (d.B< -1)||decide (d.B≥n)):=by
  have i1:imin d.A d.B< -1↔(d.A< -1∨d.B< -1):=by unfold imin;split<;>omega
  have i2:imax d.A d.B≥n↔(d.A≥n∨d.B≥n):=by unfold imax;split<;>omega
  rw[Bool.eq_iff_iff]
  simp only[Bool.or_eq_true,decide_eq_true_eq,i1,i2]
  omega
 unfold badD
 rw[e]
theorem Qwn (n:Int) (l:List QM):QeM n l=some (if Qbu n l=0 then (l.map (edS (n+1).toNat),0) else ([],Qbu n l)):=by
 unfold QeM
 by_cases h1:(decide (n>10)||decide ((l.length:Int)>64))=true
 ·have e:Qbu n l=4:=by unfold Qbu;rw[if_pos h1]
  rw[if_pos h1,e];rfl
 ·rw[if_neg h1]
  by_cases h2:decide (n<0)=true
  ·have e:Qbu n l=1:=by unfold Qbu;rw[if_neg h1,if_pos h2]
   rw[if_pos h2,e];rfl
  ·rw[if_neg h2]
   have hl:l.length≤64:=by simp only[Bool.or_eq_true,decide_eq_true_eq,not_or] at h1;omega
   have hn:0≤n∧n≤10:=by simp only[Bool.or_eq_true,decide_eq_true_eq,not_or] at h1 h2;omega
   obtain⟨m,hm⟩:∃m:Nat,n=(m:Int) - 1:=⟨(n+1).toNat,by omega⟩
   subst hm
   have hmm:((m:Int) - 1+1).toNat=m:=by omega
   rw[hmm,Qme _ _ (by omega)]
   simp only[Option.bind_some]
   have hw:i64.wrap ((m:Int) - 1+1)=(m:Int):=by rw[w64 (by omega) (by omega)];omega
   rw[hw]
   have st:∀k,k<l.length→badD ((m:Int) - 1) (l.getD k default)=false→∀z:List QU,z.length=l.length→
     (idx l (k:Int)).bind (fun t26=>(if (((((decide (imin t26.A t26.B< -1))||(decide (imax t26.A t26.B≥(m:Int) - 1)))||(t26.A==t26.B))||(decide (t26.N< -2097152)))||(decide (t26.N>2097152)))=true then (some (.inr (.inr ((1:Int),([]:List QU)))):Option ((Int×List QU)⊕((List QU)⊕(Int×List QU)))) else (nz (m:Int)).bind fun _=>(nz (m:Int)).bind fun _=>
      (setAt z (k:Int) (QU.mk (Int.tmod (i64.wrap (i64.wrap (t26.A+((m:Int) - 1))+1)) (m:Int)) (Int.tmod (i64.wrap (i64.wrap (t26.B+((m:Int) - 1))+1)) (m:Int)) t26.N)).bind fun t81s=>some (.inl (i64.wrap ((k:Int)+1),t81s))))=
     some (.inl (((k+1:Nat):Int),z.set k (edS m (l.getD k default)))):=by
    intro k hk hb z hz
    rw[getD_eq_getElem?_getD,getElem?_eq_getElem hk] at hb ⊢
    simp only[Option.getD_some] at hb ⊢
    rw[QY hk]
    simp only[Option.bind_some]
    rw[Qki,hb,if_neg (by simp)]
    simp only[badD,Bool.or_eq_false_iff,decide_eq_false_iff_not,beq_eq_false_iff_ne,ne_eq] at hb
    obtain⟨⟨⟨⟨⟨⟨a1,a2⟩,a3⟩,a4⟩,a5⟩,a6⟩,a7⟩:=hb
    rw[Qok (by omega)]
    simp only[Option.bind_some]
    rw[Qrh (by omega) (by omega) (by omega) (by omega),Qrh (by omega) (by omega) (by omega) (by omega),QbL (by omega)]
    simp only[Option.bind_some]
    rw[QK (n:=l.length) hk (by omega)]
    rfl
   by_cases hb:l.any (badD ((m:Int) - 1))=true
   ·have e:Qbu ((m:Int) - 1) l=1:=by unfold Qbu;rw[if_neg h1,if_neg h2,if_pos hb]
    rw[e,if_neg (by decide)]
    obtain⟨k0,hk0,hp0,hmin⟩:=Qse l.length (fun k=>badD ((m:Int) - 1) (l.getD k default)) (by
     obtain⟨x,hx,hp⟩:=any_eq_true.1 hb
     obtain⟨k,hk,rfl⟩:=getElem_of_mem hx
     exact⟨k,hk,by rw[getD_eq_getElem?_getD,getElem?_eq_getElem hk];exact hp⟩)
    refine Qeu k0 (fun k=>((k:Int),(l.map (edS m)).take k++(replicate l.length (QU.mk 0 0 0)).drop k)) (.inr ((1:Int),([]:List QU))) (by simp) ?_ ?_ rfl
    ·intro k hk
     simp only
     rw[if_pos (by simp;omega),st k (by omega) (hmin k hk) _ (by simp;omega)]
     have h2:edS m (l.getD k default)=(l.map (edS m))[k]'(by simp;omega):=by
      rw[getD_eq_getElem?_getD,getElem?_eq_getElem (by omega)];simp
     rw[h2,Qpa _ _ (by simp;omega) (by simp;omega)]
    ·simp only
     rw[if_pos (by simpa using hk0),QY hk0]
     simp only[Option.bind_some]
     rw[getD_eq_getElem?_getD,getElem?_eq_getElem hk0] at hp0
     rw[Qki,if_pos (show badD _ l[k0]=true from hp0)]
   ·have hb':l.any (badD ((m:Int) - 1))=false:=by simpa using hb
    have e:Qbu ((m:Int) - 1) l=0:=by unfold Qbu;rw[if_neg h1,if_neg h2,if_neg hb]
    rw[e,if_pos rfl]
    have hall:∀k,k<l.length→badD ((m:Int) - 1) (l.getD k default)=false:=by
     intro k hk
     rw[any_eq_false] at hb'
     have:=hb' _ (getElem_mem hk)
     rw[getD_eq_getElem?_getD,getElem?_eq_getElem hk]
     simpa using this
    refine Qeu l.length (fun k=>((k:Int),(l.map (edS m)).take k++(replicate l.length (QU.mk 0 0 0)).drop k)) (.inl (l.map (edS m))) (by simp) ?_ ?_ rfl
    ·intro k hk
     simp only
     rw[if_pos (by simpa using hk),st k hk (hall k hk) _ (by simp;omega)]
     have h2:edS m (l.getD k default)=(l.map (edS m))[k]'(by simpa using hk):=by
      rw[getD_eq_getElem?_getD,getElem?_eq_getElem hk];simp
     rw[h2,Qpa _ _ (by simpa using hk) (by simpa using hk)]
    ·simp only
     rw[if_neg (by simp)]
     simp[take_of_length_le]
end Go.Proofs.YtlajingmjmnfgaaGreatDoor
namespace Go.Proofs.YtlajingmjmnfgaaGreatDoor
open Go.Sim
/-- The differences are valid, for m - 1 values. -/
structure Qzz (m:Nat) (l:List QM):Prop where
 m1:1≤m
 m11:m≤11
 len:l.length≤64
 ok:∀d∈l,-1≤d.A∧d.A<(m:Int) - 1∧-1≤d.B∧d.B<(m:Int) - 1∧d.A≠d.B∧-2097152≤d.N∧d.N≤2097152
theorem QpC {n:Int} {l:List QM} (h:Qbu n l=0):∃m:Nat,n=(m:Int) - 1∧Qzz m l:=by
 obtain⟨h1,h2,h3,h4⟩:=valid0 h
 refine⟨(n+1).toNat,by omega,by omega,by omega,h3,fun d hd=>?_⟩
 obtain⟨a1,a2,a3,a4,a5,a6,a7⟩:=h4 d hd
 exact⟨a1,by omega,a3,by omega,a5,a6,a7⟩
theorem eds_w {m:Nat} {l:List QM} (hv:Qzz m l):∀e∈l.map (edN m),e.a<m∧e.b<m∧e.w≤2097152:=by
 intro e he
 obtain⟨d,hd,rfl⟩:=mem_map.1 he
 obtain⟨a1,a2,a3,a4,_,_,a7⟩:=hv.ok d hd
 exact⟨QkL a1 a2,QkL a3 a4,a7⟩
/-! The reference's table -/
theorem Quz {m:Nat} (hm:m≤11):i64.wrap ((m:Int) - 1+1)=(m:Int):=by rw[w64 (by omega) (by omega)];omega
/-! The program's table -/
theorem QuA {m:Nat} (h1:1≤m) (h2:m≤11):QcE [(1099511627776:Int)] (m:Int)=some (rowL m fun _=>INF):=by
 have key:∀m:Nat,m<12→1≤m→Qzt 20 [(1099511627776:Int)] (m:Int)=some (rowL m fun _=>INF):=by decide+kernel
 exact LeC.le (x:=Qzt 20 [(1099511627776:Int)] (m:Int)) _ (key m (by omega) h1)
end Go.Proofs.YtlajingmjmnfgaaGreatDoor
namespace Go.Proofs.YtlajingmjmnfgaaGreatDoor
open Go.Sim
end Go.Proofs.YtlajingmjmnfgaaGreatDoor
namespace Go.Proofs.YtlajingmjmnfgaaGreatDoor
open Go.Sim
end Go.Proofs.YtlajingmjmnfgaaGreatDoor
namespace Go.Proofs.YtlajingmjmnfgaaGreatDoor
open Go.Sim
end Go.Proofs.YtlajingmjmnfgaaGreatDoor
namespace Go.Proofs.YtlajingmjmnfgaaGreatDoor
open Go.Sim
end Go.Proofs.YtlajingmjmnfgaaGreatDoor
namespace Go.Proofs.YtlajingmjmnfgaaGreatDoor
open Go.Sim
end Go.Proofs.YtlajingmjmnfgaaGreatDoor
namespace Go.Proofs.YtlajingmjmnfgaaGreatDoor
open Go.Sim
/-! Holding -/
/-! Filling -/
end Go.Proofs.YtlajingmjmnfgaaGreatDoor
namespace Go.Proofs.YtlajingmjmnfgaaGreatDoor
open Go.Sim
end Go.Proofs.YtlajingmjmnfgaaGreatDoor
namespace Go.Proofs.YtlajingmjmnfgaaGreatDoor
open Go.Sim
def QdM (L r:Nat→Int) (x:Ed):Nat→Int:=if L x.b<INF then upd1 r x.a (imin (r x.a) (i64.wrap (L x.b+x.w))) else r
def lay (a0:Nat) (tl:List Ed):Nat→Nat→Int
 | 0=>upd1 (fun _=>INF) a0 0
 | s+1=>tl.foldl (QdM (lay a0 tl s)) (fun _=>INF)
def QeD (L:Nat→Int) (sum n:Int) (v:Nat):Bool:=decide (L v<INF)&&decide (i64.wrap (i64.wrap (sum+n)+L v)<0)
abbrev WkB:=Nat×List Int×Int
def inS (E:List Ed) (L:Nat→Int):Nat→Nat→WkB→WkB
 | 0,_,st=>st
 | k+1,i,st=>if ((E.getD i ⟨0,0,0⟩).a==st.1&&QeD L st.2.2 (E.getD i ⟨0,0,0⟩).w (E.getD i ⟨0,0,0⟩).b)=true then ((E.getD i ⟨0,0,0⟩).b,st.2.1++[(i:Int)],i64.wrap (st.2.2+(E.getD i ⟨0,0,0⟩).w)) else inS E L k (i+1) st
def outS (E:List Ed) (Ly:Nat→Nat→Int) (first:Nat):Nat→WkB→WkB
 | 0,st=>st
 | k+1,st=>outS E Ly first k (inS E (Ly k) (E.length - (first+1)) (first+1) st)
def Qbs (E:List Ed) (many first:Nat):List Int:=
 if QeD (lay (E.getD first ⟨0,0,0⟩).a (E.drop (first+1)) (many - 1)) (E.getD first ⟨0,0,0⟩).w 0 (E.getD first ⟨0,0,0⟩).b=true then
  (outS E (lay (E.getD first ⟨0,0,0⟩).a (E.drop (first+1))) first (many - 1) ((E.getD first ⟨0,0,0⟩).b,[(first:Int)],(E.getD first ⟨0,0,0⟩).w)).2.1
 else []
def Qhg (f:Nat→List Int):Nat→Nat→Option (List Int)
 | 0,_=>none
 | k+1,i=>if (f i).isEmpty=true then Qhg f k (i+1) else some (f i)
def Qd3 (f:Nat→Nat→List Int) (len:Nat):Nat→Nat→Option (List Int)
 | 0,_=>none
 | k+1,many=>match Qhg (f many) len 0 with | some p=>some p | none=>Qd3 f len k (many+1)
def cycS (n:Int) (l:List QM):List Int×Int:=
 if Qbu n l≠0 then ([],Qbu n l) else match Qd3 (Qbs (l.map (edN (n+1).toNat))) l.length n.toNat 2 with | some p=>(p,0) | none=>([],6)
theorem Qri {E:List Ed} {L:Nat→Int}:∀k i st,st.2.1.length≤(inS E L k i st).2.1.length∧(inS E L k i st).2.1.length≤st.2.1.length+1:=by
 intro k
 induction k with
 | zero=>intro i st;unfold inS;omega
 | succ k ih=>
  intro i st
  unfold inS
  split
  ·simp
  ·exact ih _ _
theorem Qlw {E:List Ed} {Ly:Nat→Nat→Int} {first:Nat}:∀k st,st.2.1.length≤(outS E Ly first k st).2.1.length∧(outS E Ly first k st).2.1.length≤st.2.1.length+k:=by
 intro k
 induction k with
 | zero=>intro st;unfold outS;omega
 | succ k ih=>
  intro st
  unfold outS
  have h1:=Qri (E:=E) (L:=Ly k) (E.length - (first+1)) (first+1) st
  have h2:=ih (inS E (Ly k) (E.length - (first+1)) (first+1) st)
  omega
theorem QuB {α:Type} {k:Nat} {F:Nat→α}:rowL k F++[F k]=rowL (k+1) F:=by
 unfold rowL
 rw[range_succ,map_append]
 rfl
theorem Qlx {m:Nat} {l:List QM} {i:Nat} (h:i<l.length):idx (l.map (edS m)) (i:Int)=some (edS m l[i]):=by
 rw[QY (by simpa using h)];simp
theorem QpE {m:Nat} {l:List QM} {i:Nat} (h:i<l.length):(l.map (edN m)).getD i ⟨0,0,0⟩=edN m l[i]:=by
 rw[getD_eq_getElem?_getD,getElem?_eq_getElem (by simpa using h)];simp
theorem Qrj {m:Nat} {c0:List (List Int)} {s:Int} {L:Nat→Int} {v:Nat} (n c1:Int) (hs:idx c0 s=some (rowL m L)) (hv:v<m):QbS (v:Int) s n c0 c1=some (QeD L c1 n v):=by
 unfold QbS QeD
 rw[hs]
 simp only[Option.bind_some]
 rw[QfZ hv]
 simp only[Option.bind_some]
 by_cases h:L v<INF
 ·rw[show (decide (L v<1099511627776)==true)=true by simpa using h]
  simp only[Qo9,Option.bind_some]
  rw[QfZ hv]
  rfl
 ·rw[show (decide (L v<1099511627776)==true)=false by simpa using h]
  simp only[Qny,Option.bind_some]
  have:decide (L v<1099511627776)=false:=by simpa using h
  rw[this]
  rfl
def QuC (m:Nat) (l:List QM):Prop:=∀d∈l,rowN m d.A<m∧rowN m d.B<m
theorem Qsh {m:Nat} {tl:List QM} (hl:tl.length<1000000) (hin:QuC m tl) {L:Nat→Int} {T:List (List Int)} {s:Int} (hT:idx T s=some (rowL m L)):
  Qo (fun (s201:Int×List Int)=>((if (decide (s201.1<((tl.map (edS m)).length:Int)))=true then (idx (tl.map (edS m)) s201.1).bind fun t52=>(idx T s).bind fun r223=>(idx r223 (t52).b).bind fun t61=>((if (decide (t61<(1099511627776:Int)))=true then (idx s201.2 (t52).a).bind fun t71=>(setAt s201.2 (t52).a (imin t71 (i64.wrap (t61+(t52).n)))).bind fun t78s=>(some t78s) else (some s201.2))).bind fun (p225:List Int)=>(some (.inl ((i64.wrap (s201.1+(1:Int))),p225))) else (some (.inr s201.2))):Option ((Int×List Int)⊕((List Int))))) ((0:Int),rowL m fun _=>INF)=some (rowL m ((tl.map (edN m)).foldl (QdM L) fun _=>INF)):=by
 refine Qca tl.length (fun k=>((k:Int),rowL m (((tl.take k).map (edN m)).foldl (QdM L) fun _=>INF))) _ ?_ ?_
 ·intro k hk
  simp only
  obtain⟨ha,hb⟩:=hin _ (getElem_mem hk)
  rw[if_pos (by simpa using hk),Qlx hk]
  simp only[Option.bind_some,edS]
  rw[hT]
  simp only[Option.bind_some]
  rw[QfZ hb]
  simp only[Option.bind_some]
  rw[QK hk (by omega),take_succ_eq_append_getElem hk,map_append,foldl_append]
  generalize ((tl.take k).map (edN m)).foldl (QdM L) (fun _=>INF)=r
  simp only[map_cons,map_nil,foldl_cons,foldl_nil]
  unfold QdM edN
  simp only
  by_cases h:L (rowN m tl[k].B)<INF
  ·rw[if_pos h,if_pos (by simpa using h),QfZ ha]
   simp only[Option.bind_some]
   rw[QpA ha]
   rfl
  ·rw[if_neg h,if_neg (by simpa using h)]
   rfl
 ·rw[if_neg (by simp),take_length]
/-- The part behind a place, and the edges there. -/
theorem Qwp {m:Nat} {l:List QM} {i:Nat}:(l.map (edN m)).drop i=(l.drop i).map (edN m):=by rw[map_drop]
theorem Qwq {m:Nat} {l:List QM} (hv:Qzz m l) {first many:Nat} (hf:first<l.length) (h2:2≤many) (hm:many≤m):
  QcL ((m:Int) - 1) (l.map (edS m)) (first:Int) (many:Int)=some (Qbs (l.map (edN m)) many first):=by
 have hm11:=hv.m11
 have hlen:=hv.len
 have hin:QuC m l:=fun d hd=>by
  have h:=eds_w hv (edN m d) (mem_map_of_mem hd)
  exact⟨h.1,h.2.1⟩
 unfold QcL Qbs
 obtain⟨ha,hb⟩:=hin _ (getElem_mem hf)
 rw[Quz hm11,QuA hv.m1 hm11,QpE hf,Qwp]
 simp only[Option.bind_some]
 generalize hLy:lay (edN m l[first]).a ((l.drop (first+1)).map (edN m))=Ly
 have e0B:idx [rowL m fun _=>INF] (0:Int)=some (rowL m fun _=>INF):=rfl
 rw[e0B,Qlx hf]
 simp only[Option.bind_some,edS]
 rw[QpA ha]
 simp only[Option.bind_some]
 have e1:setAt [rowL m fun _=>INF] (0:Int) (rowL m (upd1 (fun _=>INF) (rowN m l[first].A) 0))=some (rowL 1 fun q=>rowL m (Ly q)):=by
  rw[←hLy];rfl
 rw[e1]
 simp only[Option.bind_some]
 refine Qeu (many - 1) (fun k=>(((k+1:Nat):Int),rowL (k+1) fun q=>rowL m (Ly q))) (rowL many fun q=>rowL m (Ly q)) rfl ?_ ?_ ?_
 ·intro k hk
  simp only
  rw[if_pos (by simp;omega)]
  have e3:sub (l.map (edS m)) (i64.wrap ((first:Int)+1)) ((l.map (edS m)).length:Int)=some ((l.drop (first+1)).map (edS m)):=by
   rw[w64 (by omega) (by omega)]
   unfold sub
   rw[if_pos (by simp;omega),show ((first:Int)+1).toNat=first+1 by omega,take_of_length_le (by simp),map_drop]
  rw[e3]
  simp only[Option.bind_some]
  have e4:idx (rowL (k+1) fun q=>rowL m (Ly q)) (i64.wrap (((k+1:Nat):Int) - 1))=some (rowL m (Ly k)):=by
   rw[w64 (by omega) (by omega),show ((k+1:Nat):Int) - 1=(k:Int) by omega,QfZ (by omega)]
  rw[Qsh (by simp;omega) (fun d hd=>hin d (mem_of_mem_drop hd)) e4]
  simp only[Option.bind_some]
  rw[Qcj (by rw[Qlu];omega)]
  simp only[Option.bind_some]
  have e5:((l.drop (first+1)).map (edN m)).foldl (QdM (Ly k)) (fun _=>INF)=Ly (k+1):=by rw[←hLy];rfl
  rw[e5,QK (n:=many) (by omega) (by omega)]
  have:=QuB (k:=k+1) (F:=fun q=>rowL m (Ly q))
  rw[this]
 ·rw[if_neg (by simp;omega),show many - 1+1=many by omega]
 ·have e6:idx (rowL many fun q=>rowL m (Ly q)) (i64.wrap ((many:Int) - 1))=some (rowL m (Ly (many - 1))):=by
   rw[w64 (by omega) (by omega),show (many:Int) - 1=((many - 1:Nat):Int) by omega,QfZ (by omega)]
  rw[Qrj _ _ e6 hb]
  simp only[Option.bind_some]
  by_cases hg:QeD (Ly (many - 1)) l[first].N 0 (rowN m l[first].B)=true
  ·rw[hg]
   rw[if_neg (by simp),if_pos (by simpa[edN] using hg)]
   have inn:∀(L:Nat→Int) (s:Int),idx (rowL many fun q=>rowL m (Ly q)) s=some (rowL m L)→∀(k i:Nat) (st:WkB),i+k=l.length→st.2.1.length≤100→
     (Qo (fun (s165:Int)=>((if (decide (s165<((l.map (edS m)).length:Int)))=true then (idx (l.map (edS m)) s165).bind fun t119=>(opt (((t119).a==(st.1:Int))==true) (QbS (t119).b s (t119).n (rowL many fun q=>rowL m (Ly q)) st.2.2) default).bind fun t132=>(if (((t119).a==(st.1:Int))&&t132)=true then (rm (st.2.1.length+[s165].length)).bind fun _=>(some (.inr (.inr ((t119).b,(st.2.1++[s165]),(i64.wrap (st.2.2+(t119).n)))))) else (some (.inl (i64.wrap (s165+(1:Int)))))) else (some (.inr (.inl ())))):Option ((Int)⊕((Unit)⊕(Int×List Int×Int))))) (i:Int)).bind (fun (e167:(Unit)⊕(Int×List Int×Int))=>(match e167 with | .inl _=>(some ((st.1:Int),st.2.1,st.2.2)) | .inr p179=>(some (p179.1,p179.2.1,p179.2.2))))=
     some (((inS (l.map (edN m)) L k i st).1:Int),(inS (l.map (edN m)) L k i st).2.1,(inS (l.map (edN m)) L k i st).2.2):=by
    intro L s hs k
    induction k with
    | zero=>
     intro i st hi _
     rw[Qan]
     rw[if_neg (by simp;omega)]
     rfl
    | succ k ih=>
     intro i st hi hst
     have hil:i<l.length:=by omega
     obtain⟨ha,hb⟩:=hin _ (getElem_mem hil)
     rw[Qan]
     rw[if_pos (by simpa using hil),Qlx hil]
     simp only[Option.bind_some,edS]
     unfold inS
     rw[QpE hil,Qrj _ _ hs hb]
     have ea:(((rowN m l[i].A:Nat):Int)==(st.1:Int))=((edN m l[i]).a==st.1):=by
      rw[Bool.eq_iff_iff];simp only[edN,beq_iff_eq];omega
     rw[ea]
     by_cases hc:((edN m l[i]).a==st.1)=true
     ·rw[hc]
      simp only[BEq.rfl,Qo9,Option.bind_some,Bool.true_and]
      by_cases hg:QeD L st.2.2 l[i].N (rowN m l[i].B)=true
      ·rw[if_pos hg,if_pos (by simpa[edN] using hg),Qcj (by simp;omega)]
       rfl
      ·rw[if_neg hg,if_neg (by simpa[edN] using hg)]
       simp only
       rw[QK hil (by omega)]
       exact ih (i+1) st (by omega) hst
     ·have hc':((edN m l[i]).a==st.1)=false:=by simpa using hc
      rw[hc']
      simp only[show (false==true)=false from rfl,Qny,Option.bind_some,Bool.false_and,Bool.false_eq_true,if_false]
      rw[QK hil (by omega)]
      exact ih (i+1) st (by omega) hst
   have out:∀(k:Nat) (st:WkB),k<many→st.2.1.length+k≤100→
     Qo (fun (s65:Int×Int×List Int×Int)=>((if (decide (s65.1≥(0:Int)))=true then ((Qo (fun (s165:Int)=>((if (decide (s165<((l.map (edS m)).length:Int)))=true then (idx (l.map (edS m)) s165).bind fun t119=>(opt (((t119).a==s65.2.1)==true) (QbS (t119).b s65.1 (t119).n (rowL many fun q=>rowL m (Ly q)) s65.2.2.2) default).bind fun t132=>(if (((t119).a==s65.2.1)&&t132)=true then (rm (s65.2.2.1.length+[s165].length)).bind fun _=>(some (.inr (.inr ((t119).b,(s65.2.2.1++[s165]),(i64.wrap (s65.2.2.2+(t119).n)))))) else (some (.inl (i64.wrap (s165+(1:Int)))))) else (some (.inr (.inl ())))):Option ((Int)⊕((Unit)⊕(Int×List Int×Int))))) (i64.wrap ((first:Int)+(1:Int)))).bind fun (e167:(Unit)⊕(Int×List Int×Int))=>(match e167 with | .inl _=>(some (s65.2.1,s65.2.2.1,s65.2.2.2)) | .inr p179=>(some (p179.1,p179.2.1,p179.2.2)))).bind fun (p135:Int×List Int×Int)=>(some (.inl ((i64.wrap (s65.1 - (1:Int))),p135.1,p135.2.1,p135.2.2))) else (some (.inr s65.2.2.1))):Option ((Int×Int×List Int×Int)⊕((List Int)))))
      ((k:Int) - 1,(st.1:Int),st.2.1,st.2.2)=some (outS (l.map (edN m)) Ly first k st).2.1:=by
    intro k
    induction k with
    | zero=>
     intro st _ _
     rw[Qan]
     simp only
     rw[if_neg (by simp)]
     rfl
    | succ k ih=>
     intro st hk hst
     have e7:idx (rowL many fun q=>rowL m (Ly q)) (((k+1:Nat):Int) - 1)=some (rowL m (Ly k)):=by
      rw[show ((k+1:Nat):Int) - 1=(k:Int) by omega,QfZ (by omega)]
     have e8:=inn (Ly k) (((k+1:Nat):Int) - 1) e7 (l.length - (first+1)) (first+1) st (by omega) (by omega)
     have hlen:=Qri (E:=l.map (edN m)) (L:=Ly k) (l.length - (first+1)) (first+1) st
     rw[Qan]
     simp only
     rw[←QK (n:=l.length) (k:=first) (by omega) (by omega)] at e8
     rw[if_pos (by simp),e8]
     simp only[Option.bind_some]
     rw[w64 (n:=((k+1:Nat):Int) - 1 - 1) (by omega) (by omega),show ((k+1:Nat):Int) - 1 - 1=(k:Int) - 1 by omega]
     refine (ih (inS (l.map (edN m)) (Ly k) (l.length - (first+1)) (first+1) st) (by omega) (by omega)).trans ?_
     conv=>rhs;unfold outS
     rw[length_map]
   have e9:=out (many - 1) (rowN m l[first].B,[(first:Int)],l[first].N) (by omega) (by simp;omega)
   rw[show ((many - 1:Nat):Int) - 1=i64.wrap ((many:Int) - 2) by rw[w64 (by omega) (by omega)];omega] at e9
   simp only at e9
   refine (congrArg (Option.bind · _) e9).trans ?_
   simp only[Option.bind_some]
   have hne:=(Qlw (E:=l.map (edN m)) (Ly:=Ly) (first:=first) (many - 1) (rowN m l[first].B,[(first:Int)],l[first].N)).1
   have:ne (outS (l.map (edN m)) Ly first (many - 1) (rowN m l[first].B,[(first:Int)],l[first].N)).2.1=some ():=by
    cases h:(outS (l.map (edN m)) Ly first (many - 1) (rowN m l[first].B,[(first:Int)],l[first].N)).2.1 with
    | nil=>rw[h] at hne;simp at hne
    | cons _ _=>rfl
   rw[this]
   rfl
  ·have hg':QeD (Ly (many - 1)) l[first].N 0 (rowN m l[first].B)=false:=by simpa using hg
   rw[hg',if_pos (by simp),if_neg (by simpa[edN] using hg)]
end Go.Proofs.YtlajingmjmnfgaaGreatDoor
namespace Go.Proofs.YtlajingmjmnfgaaGreatDoor
open Go.Sim
end Go.Proofs.YtlajingmjmnfgaaGreatDoor
namespace Go.Proofs.YtlajingmjmnfgaaGreatDoor
open Go.Sim
theorem Qkj {E:List Ed} {many first:Nat}:(Qbs E many first).isEmpty=!QeD (lay (E.getD first ⟨0,0,0⟩).a (E.drop (first+1)) (many - 1)) (E.getD first ⟨0,0,0⟩).w 0 (E.getD first ⟨0,0,0⟩).b:=by
 unfold Qbs
 split
 ·next h=>
  rw[h]
  have hne:=(Qlw (E:=E) (Ly:=lay (E.getD first ⟨0,0,0⟩).a (E.drop (first+1))) (first:=first) (many - 1) ((E.getD first ⟨0,0,0⟩).b,[(first:Int)],(E.getD first ⟨0,0,0⟩).w)).1
  cases h:(outS E (lay (E.getD first ⟨0,0,0⟩).a (E.drop (first+1))) first (many - 1) ((E.getD first ⟨0,0,0⟩).b,[(first:Int)],(E.getD first ⟨0,0,0⟩).w)).2.1 with
  | nil=>rw[h] at hne;simp at hne
  | cons _ _=>rfl
 ·next h=>rw[Bool.not_eq_true] at h;rw[h];rfl
theorem QuD {m:Nat} {l:List QM} (hv:Qzz m l) {many:Nat} (h2:2≤many) (hm:many≤m):∀(k i:Nat),i+k=l.length→
  Qo (fun (s46:Int)=>((if (decide (s46<((l.map (edS m)).length:Int)))=true then (QcL ((m:Int) - 1) (l.map (edS m)) s46 (many:Int)).bind fun t35=>(if (!t35.isEmpty)=true then (some (.inr (.inr (t35,(0:Int))))) else (some (.inl (i64.wrap (s46+(1:Int)))))) else (some (.inr (.inl ())))):Option ((Int)⊕((Unit)⊕((List Int)×Int))))) (i:Int)=
   some (match Qhg (Qbs (l.map (edN m)) many) k i with | some p=>.inr (p,0) | none=>.inl ()):=by
 have hlen:=hv.len
 intro k
 induction k with
 | zero=>
  intro i hi
  rw[Qan]
  rw[if_neg (by simp;omega)]
  rfl
 | succ k ih=>
  intro i hi
  rw[Qan]
  rw[if_pos (by simp;omega),Qwq hv (by omega) h2 hm]
  simp only[Option.bind_some]
  unfold Qhg
  cases h:(Qbs (l.map (edN m)) many i).isEmpty with
  | true=>
   simp only[Bool.not_true,Bool.false_eq_true,if_false,if_true]
   rw[QK (n:=l.length) (by omega) (by omega)]
   exact ih (i+1) (by omega)
  | false=>simp only[Bool.not_false,if_true,Bool.false_eq_true,if_false]
theorem cyc_is (n:Int) (l:List QM):QeN n l=some (cycS n l):=by
 unfold QeN cycS
 rw[Qwn]
 simp only[Option.bind_some]
 by_cases h:Qbu n l=0
 ·obtain⟨m,rfl,hv⟩:=QpC h
  have hm11:=hv.m11
  have hm1:=hv.m1
  rw[if_pos h,if_neg (by simp[h])]
  have hn:¬(Qbu ((m:Int) - 1) l≠0):=fun g=>g h
  rw[if_neg hn,show ((m:Int) - 1+1).toNat=m by omega,show ((m:Int) - 1).toNat=m - 1 by omega,Quz hm11]
  have key:∀(k many:Nat),2≤many→many+k=m+1→Qo (fun (s8:Int)=>((if (decide (s8≤(m:Int)))=true then (Qo (fun (s46:Int)=>((if (decide (s46<((l.map (edS m)).length:Int)))=true then (QcL ((m:Int) - 1) (l.map (edS m)) s46 s8).bind fun t35=>(if (!t35.isEmpty)=true then (some (.inr (.inr (t35,(0:Int))))) else (some (.inl (i64.wrap (s46+(1:Int)))))) else (some (.inr (.inl ())))):Option ((Int)⊕((Unit)⊕((List Int)×Int))))) (0:Int)).bind fun (e47:(Unit)⊕((List Int)×Int))=>(match e47 with | .inl p57=>(some (.inl (i64.wrap (s8+(1:Int))))) | .inr p58=>(some (.inr (.inr (p58.1,p58.2))))) else (some (.inr (.inl ())))):Option ((Int)⊕((Unit)⊕((List Int)×Int))))) (many:Int)=
    some (match Qd3 (Qbs (l.map (edN m))) l.length k many with | some p=>.inr (p,0) | none=>.inl ()):=by
   intro k
   induction k with
   | zero=>
    intro many h2 hk
    rw[Qan]
    rw[if_neg (by simp;omega)]
    rfl
   | succ k ih=>
    intro many h2 hk
    rw[Qan]
    have hin:=QuD hv h2 (show many≤m by omega) l.length 0 (by omega)
    rw[show ((0:Nat):Int)=0 from rfl] at hin
    rw[if_pos (by simp;omega),hin]
    simp only[Option.bind_some]
    unfold Qd3
    cases hs:Qhg (Qbs (l.map (edN m)) many) l.length 0 with
    | some p=>rfl
    | none=>
     simp only
     rw[QK (n:=m+1) (k:=many) (by omega) (by omega)]
     exact ih (many+1) (by omega) (by omega)
  have h2:=key (m - 1) 2 (by omega) (by omega)
  rw[show ((2:Nat):Int)=2 from rfl] at h2
  refine (congrArg (Option.bind · _) h2).trans ?_
  simp only[Option.bind_some]
  cases Qd3 (Qbs (l.map (edN m))) l.length (m - 1) 2<;>rfl
 ·rw[if_neg h,if_pos h]
  simp only
  rw[if_pos (by simpa using h)]
end Go.Proofs.YtlajingmjmnfgaaGreatDoor
namespace Go.Proofs.YtlajingmjmnfgaaGreatDoor
open Go.Sim
theorem Qsi {f:Nat→List Int} {p:List Int}:∀k i,Qhg f k i=some p→∃j,i≤j∧j<i+k∧p=f j∧p.isEmpty=false∧∀q,i≤q→q<j→(f q).isEmpty=true:=by
 intro k
 induction k with
 | zero=>intro i h;cases h
 | succ k ih=>
  intro i h
  unfold Qhg at h
  split at h
  ·next he=>
   obtain⟨j,h1,h2,h3,h4,h5⟩:=ih _ h
   refine⟨j,by omega,by omega,h3,h4,fun q hq hqj=>?_⟩
   by_cases hqi:q=i
   ·rw[hqi];exact he
   ·exact h5 q (by omega) hqj
  ·next he=>
   cases h
   exact⟨i,by omega,by omega,rfl,by simpa using he,fun q _ _=>by omega⟩
theorem Qmq {f:Nat→List Int}:∀k i,Qhg f k i=none→∀q,i≤q→q<i+k→(f q).isEmpty=true:=by
 intro k
 induction k with
 | zero=>intro i _ q _ _;omega
 | succ k ih=>
  intro i h q hq hqk
  unfold Qhg at h
  split at h
  ·next he=>
   by_cases hqi:q=i
   ·rw[hqi];exact he
   ·exact ih _ h q (by omega) (by omega)
  ·cases h
theorem Qmr {f:Nat→Nat→List Int} {len:Nat} {p:List Int}:∀k many,Qd3 f len k many=some p→∃q i,many≤q∧q<many+k∧i<len∧p=f q i∧p.isEmpty=false∧(∀j,j<i→(f q j).isEmpty=true)∧∀q',many≤q'→q'<q→∀j,j<len→(f q' j).isEmpty=true:=by
 intro k
 induction k with
 | zero=>intro many h;cases h
 | succ k ih=>
  intro many h
  unfold Qd3 at h
  split at h
  ·next p' hs=>
   cases h
   obtain⟨j,_,h2,h3,h4,h5⟩:=Qsi _ _ hs
   exact⟨many,j,by omega,by omega,by omega,h3,h4,fun q hq=>h5 q (by omega) hq,fun q' h1 h2=>by omega⟩
  ·next hs=>
   obtain⟨q,i,h1,h2,h3,h4,h5,h6,h7⟩:=ih _ h
   refine⟨q,i,by omega,by omega,h3,h4,h5,h6,fun q' hq' hq j hj=>?_⟩
   by_cases hqm:q'=many
   ·rw[hqm];exact Qmq _ _ hs j (by omega) (by omega)
   ·exact h7 q' (by omega) hq j hj
theorem Qsj {f:Nat→Nat→List Int} {len:Nat}:∀k many,Qd3 f len k many=none→∀q,many≤q→q<many+k→∀j,j<len→(f q j).isEmpty=true:=by
 intro k
 induction k with
 | zero=>intro many _ q _ _;omega
 | succ k ih=>
  intro many h q hq hqk j hj
  unfold Qd3 at h
  split at h
  ·cases h
  ·next hs=>
   by_cases hqm:q=many
   ·rw[hqm];exact Qmq _ _ hs j (by omega) (by omega)
   ·exact ih _ h q (by omega) (by omega) j hj
theorem Qsk {E:List Ed} {many first:Nat}:(Qbs E many first).length≤many+1:=by
 unfold Qbs
 split
 ·have:=(Qlw (E:=E) (Ly:=lay (E.getD first ⟨0,0,0⟩).a (E.drop (first+1))) (first:=first) (many - 1) ((E.getD first ⟨0,0,0⟩).b,[(first:Int)],(E.getD first ⟨0,0,0⟩).w)).2
  simp only[length_cons,length_nil] at this
  omega
 ·simp
theorem Qwr (n:Int) (l:List QM):(cycS n l).1.length≤12:=by
 unfold cycS
 by_cases h:Qbu n l=0
 ·obtain⟨m,rfl,hv⟩:=QpC h
  have hm11:=hv.m11
  rw[if_neg (by simpa using h)]
  split
  ·next p hp=>
   obtain⟨q,i,h1,h2,_,h4,_⟩:=Qmr _ _ hp
   rw[h4]
   have:=Qsk (E:=l.map (edN ((m:Int) - 1+1).toNat)) (many:=q) (first:=i)
   simp only
   omega
  ·simp
 ·rw[if_pos h];simp
end Go.Proofs.YtlajingmjmnfgaaGreatDoor
namespace Go.Proofs.YtlajingmjmnfgaaGreatDoor
open Go.Sim
theorem QuE {m:Nat} {l:List QM} (hv:Qzz m l):Qbu ((m:Int) - 1) l=0:=by
 have h1:=hv.m1
 have h2:=hv.m11
 have h3:=hv.len
 unfold Qbu
 rw[if_neg (by simp;omega),if_neg (by simp;omega),if_neg]
 intro h
 obtain⟨d,hd,hb⟩:=any_eq_true.1 h
 obtain⟨a1,a2,a3,a4,a5,a6,a7⟩:=hv.ok d hd
 unfold badD at hb
 simp only[Bool.or_eq_true,decide_eq_true_eq,beq_iff_eq] at hb
 omega
/-! The closure as differences -/
theorem QuF {α:Type} {f:Nat→List α} {n:Nat}:(range (n+1)).flatMap f=(range n).flatMap f++f n:=by
 rw[range_succ,flatMap_append];simp
end Go.Proofs.YtlajingmjmnfgaaGreatDoor
namespace Go.Proofs.YtlajingmjmnfgaaGreatDoor
open Go.Sim
def walk:Nat→Nat→List Ed→Prop
 | i,k,[]=>i=k
 | i,k,e::es=>e.a=i∧walk e.b k es
def esum (es:List Ed):Int:=(es.map Ed.w).sum
theorem QdN {e:Ed} {es:List Ed}:esum (e::es)=e.w+esum es:=by simp[esum]
theorem QpF {a b:List Ed}:esum (a++b)=esum a+esum b:=by simp[esum]
theorem QhN {es fs:List Ed}:∀{i k:Nat},walk i k (es++fs)↔∃j,walk i j es∧walk j k fs:=by
 induction es with
 | nil=>intro i k;simp[walk]
 | cons e es ih=>
  intro i k
  simp only[cons_append,walk,ih]
  constructor
  ·rintro ⟨h1,j,h2,h3⟩;exact⟨j,⟨h1,h2⟩,h3⟩
  ·rintro ⟨j,⟨h1,h2⟩,h3⟩;exact⟨h1,j,h2,h3⟩
theorem QuG {l:List Ed} (h:¬(l.map Ed.a).Nodup):∃p e q f r,l=p++e::(q++f::r)∧e.a=f.a:=by
 induction l with
 | nil=>simp at h
 | cons x l ih=>
  rw[map_cons,nodup_cons] at h
  by_cases hx:x.a∈l.map Ed.a
  ·obtain⟨f,hf,he⟩:=mem_map.1 hx
   obtain⟨q,r,rfl⟩:=append_of_mem hf
   exact⟨[],x,q,f,r,rfl,he.symm⟩
  ·obtain⟨p,e,q,f,r,rfl,h2⟩:=ih fun h2=>h ⟨hx,h2⟩
   exact⟨x::p,e,q,f,r,rfl,h2⟩
/-- In a closed way of negative sum there is one that meets no value twice. -/
theorem Qsl:∀(n:Nat) (es:List Ed) (i:Nat),es.length≤n→walk i i es→esum es<0→∃j cs,walk j j cs∧esum cs<0∧(cs.map Ed.a).Nodup∧∀e∈cs,e∈es:=by
 intro n
 induction n with
 | zero=>
  intro es i hn _ hs
  have:es=[]:=eq_nil_of_length_eq_zero (by omega)
  subst this
  simp[esum] at hs
 | succ n ih=>
  intro es i hn hw hs
  by_cases hd:(es.map Ed.a).Nodup
  ·exact⟨i,es,hw,hs,hd,fun e he=>he⟩
  ·obtain⟨p,e,q,f,r,rfl,hef⟩:=QuG hd
   obtain⟨j,h1,h2⟩:=QhN.1 hw
   obtain⟨h3,h4⟩:=h2
   obtain⟨j2,h5,h6⟩:=QhN.1 h4
   obtain⟨h7,h8⟩:=h6
   have c1:walk e.a e.a (e::q):=⟨rfl,by rw[hef,h7];exact h5⟩
   have c2:walk i i (p++f::r):=QhN.2 ⟨j,h1,by rw[←h3,hef];exact⟨rfl,h8⟩⟩
   have hsum:esum (p++e::(q++f::r))=esum (e::q)+esum (p++f::r):=by
    simp only[QpF,QdN];omega
   rw[hsum] at hs
   simp only[length_append,length_cons] at hn
   by_cases hneg:esum (e::q)<0
   ·obtain⟨j,cs,g1,g2,g3,g4⟩:=ih (e::q) e.a (by simp only[length_cons];omega) c1 hneg
    refine⟨j,cs,g1,g2,g3,fun x hx=>?_⟩
    have:=g4 x hx
    simp only[mem_append,mem_cons] at this ⊢
    rcases this with h | h
    ·exact .inr (.inl h)
    ·exact .inr (.inr (.inl h))
   ·obtain⟨j,cs,g1,g2,g3,g4⟩:=ih (p++f::r) i (by simp only[length_append,length_cons];omega) c2 (by omega)
    refine⟨j,cs,g1,g2,g3,fun x hx=>?_⟩
    have:=g4 x hx
    simp only[mem_append,mem_cons] at this ⊢
    rcases this with h | h | h
    ·exact .inl h
    ·exact .inr (.inr (.inr (.inl h)))
    ·exact .inr (.inr (.inr (.inr h)))
/-! Layers -/
theorem QnJ {L:Nat→Int}:∀(tl:List Ed) (r:Nat→Int) (v:Nat),(tl.foldl (QdM L) r) v=r v∨∃x∈tl,x.a=v∧L x.b<INF∧(tl.foldl (QdM L) r) v=i64.wrap (L x.b+x.w):=by
 intro tl
 induction tl with
 | nil=>intro r v;exact .inl rfl
 | cons x tl ih=>
  intro r v
  rw[foldl_cons]
  rcases ih (QdM L r x) v with h | ⟨y,hy,h1,h2,h3⟩
  ·by_cases hL:L x.b<INF
   ·have e:QdM L r x v=if v=x.a then imin (r x.a) (i64.wrap (L x.b+x.w)) else r v:=by unfold QdM;rw[if_pos hL];rfl
    rw[e] at h
    by_cases hv:v=x.a
    ·rw[if_pos hv] at h
     rcases (QgC (r x.a) (i64.wrap (L x.b+x.w))).2.2 with g | g
     ·rw[g] at h;left;rw[h,hv]
     ·rw[g] at h;right;exact⟨x,mem_cons_self ..,hv.symm,hL,h⟩
    ·rw[if_neg hv] at h;exact .inl h
   ·have e:QdM L r x=r:=by unfold QdM;rw[if_neg hL]
    rw[e] at h;left;rw[e];exact h
  ·exact .inr ⟨y,mem_cons_of_mem _ hy,h1,h2,h3⟩
theorem QuH {L:Nat→Int}:∀(tl:List Ed) (r:Nat→Int) (v:Nat),(tl.foldl (QdM L) r) v≤r v:=by
 intro tl
 induction tl with
 | nil=>intro r v;exact Int.le_refl _
 | cons x tl ih=>
  intro r v
  rw[foldl_cons]
  refine Int.le_trans (ih _ v) ?_
  unfold QdM
  split
  ·unfold upd1
   split
   ·next h=>rw[h];exact (QgC _ _).1
   ·exact Int.le_refl _
  ·exact Int.le_refl _
theorem Qwu {L:Nat→Int}:∀(tl:List Ed) (r:Nat→Int) (x:Ed),x∈tl→L x.b<INF→(tl.foldl (QdM L) r) x.a≤i64.wrap (L x.b+x.w):=by
 intro tl
 induction tl with
 | nil=>intro r x hx;cases hx
 | cons y tl ih=>
  intro r x hx hL
  rw[foldl_cons]
  rcases mem_cons.1 hx with rfl | hx
  ·refine Int.le_trans (QuH _ _ _) ?_
   unfold QdM
   rw[if_pos hL,QdL]
   exact (QgC _ _).2.1
  ·exact ih _ x hx hL
def QfN (tl:List Ed):Prop:=∀x∈tl,-2097152≤x.w∧x.w≤2097152
theorem QpG {a0:Nat} {tl:List Ed} (hs:QfN tl):∀s,s≤100→∀v,lay a0 tl s v=INF∨(-(s:Int) * 2097152≤lay a0 tl s v∧lay a0 tl s v≤(s:Int) * 2097152):=by
 intro s
 induction s with
 | zero=>
  intro _ v
  show upd1 (fun _=>INF) a0 0 v=INF∨_
  unfold lay upd1
  by_cases h:v=a0
  ·right;rw[if_pos h];omega
  ·left;rw[if_neg h]
 | succ s ih=>
  intro hs100 v
  have u0:INF=1099511627776:=rfl
  rcases QnJ (L:=lay a0 tl s) tl (fun _=>INF) v with h | ⟨x,hx,h1,h2,h3⟩
  ·exact .inl h
  ·right
   have e:lay a0 tl (s+1) v=i64.wrap (lay a0 tl s x.b+x.w):=h3
   have hw:=hs x hx
   rcases ih (by omega) x.b with g | g
   ·omega
   ·rw[w64 (by omega) (by omega)] at e
    rw[e];omega
theorem Qwv {a0:Nat} {tl:List Ed} (hs:QfN tl) {s:Nat} (h100:s<100) {v:Nat} (h:lay a0 tl (s+1) v<INF):∃x∈tl,x.a=v∧lay a0 tl s x.b<INF∧lay a0 tl (s+1) v=lay a0 tl s x.b+x.w:=by
 have u0:INF=1099511627776:=rfl
 rcases QnJ (L:=lay a0 tl s) tl (fun _=>INF) v with g | ⟨x,hx,h1,h2,h3⟩
 ·have e:lay a0 tl (s+1) v=INF:=g
  omega
 ·have e:lay a0 tl (s+1) v=i64.wrap (lay a0 tl s x.b+x.w):=h3
  have hw:=hs x hx
  have hb:=QpG (a0:=a0) hs s (by omega) x.b
  rw[w64 (by omega) (by omega)] at e
  exact⟨x,hx,h1,h2,e⟩
theorem lay_le {a0:Nat} {tl:List Ed} (hs:QfN tl):∀(es:List Ed) (v:Nat),es.length≤100→walk v a0 es→(∀e∈es,e∈tl)→lay a0 tl es.length v<INF∧lay a0 tl es.length v≤esum es:=by
 intro es
 have u0:INF=1099511627776:=rfl
 induction es with
 | nil=>
  intro v _ h _
  have h:v=a0:=h
  subst h
  show upd1 (fun _=>INF) v 0 v<INF∧upd1 (fun _=>INF) v 0 v≤esum []
  rw[QdL]
  exact⟨by omega,by simp[esum]⟩
 | cons e es ih=>
  intro v hl h hm
  obtain⟨rfl,h⟩:=h
  simp only[length_cons] at hl ⊢
  obtain⟨h1,h2⟩:=ih e.b (by omega) h fun x hx=>hm x (mem_cons_of_mem _ hx)
  have he:=hm e (mem_cons_self ..)
  have h3:=Qwu (L:=lay a0 tl es.length) tl (fun _=>INF) e he h1
  have e3:lay a0 tl (es.length+1) e.a≤i64.wrap (lay a0 tl es.length e.b+e.w):=h3
  have hw:=hs e he
  have hb:=QpG (a0:=a0) hs es.length (by omega) e.b
  rw[w64 (by omega) (by omega)] at e3
  rw[QdN]
  omega
end Go.Proofs.YtlajingmjmnfgaaGreatDoor
namespace Go.Proofs.YtlajingmjmnfgaaGreatDoor
open Go.Sim
abbrev e0B:Ed:=⟨0,0,0⟩
theorem Qww {E:List Ed} {L:Nat→Int}:∀(k i:Nat) (st:WkB),i+k=E.length→(∃j,i≤j∧j<E.length∧((E.getD j e0B).a==st.1&&QeD L st.2.2 (E.getD j e0B).w (E.getD j e0B).b)=true)→
  ∃j,i≤j∧j<E.length∧((E.getD j e0B).a==st.1&&QeD L st.2.2 (E.getD j e0B).w (E.getD j e0B).b)=true∧inS E L k i st=((E.getD j e0B).b,st.2.1++[(j:Int)],i64.wrap (st.2.2+(E.getD j e0B).w)):=by
 intro k
 induction k with
 | zero=>rintro i st hi ⟨j,h1,h2,_⟩;omega
 | succ k ih=>
  rintro i st hi ⟨j,h1,h2,h3⟩
  unfold inS
  by_cases hc:((E.getD i e0B).a==st.1&&QeD L st.2.2 (E.getD i e0B).w (E.getD i e0B).b)=true
  ·rw[if_pos hc]
   exact⟨i,Nat.le_refl _,by omega,hc,rfl⟩
  ·rw[if_neg hc]
   have hij:i≠j:=by rintro rfl;exact hc h3
   obtain⟨j2,g1,g2,g3⟩:=ih (i+1) st (by omega) ⟨j,by omega,h2,h3⟩
   exact⟨j2,by omega,g2,g3⟩
theorem Qht {E:List Ed} {j:Nat} (h:j<E.length):E.getD j e0B=E[j]:=by rw[getD_eq_getElem?_getD,getElem?_eq_getElem h];rfl
theorem Qly {L:Nat→Int} {sum n:Int} {v:Nat} (h1:-2147483648≤sum∧sum≤2147483648) (h2:-2097152≤n∧n≤2097152) (h3:L v=INF∨(-2147483648≤L v∧L v≤2147483648)):QeD L sum n v=true↔L v<INF∧sum+n+L v<0:=by
 have u0:INF=1099511627776:=rfl
 unfold QeD
 rw[Bool.and_eq_true,decide_eq_true_eq,decide_eq_true_eq,w64 (n:=sum+n) (by omega) (by omega),w64 (by omega) (by omega)]
theorem Qhh {E:List Ed} (hs:QfN E) (k:Nat):QfN (E.drop k):=fun x hx=>hs x (mem_of_mem_drop hx)
theorem Qm6 {a0:Nat} {tl:List Ed} (hs:QfN tl) {s:Nat} (h:s≤100) (v:Nat):lay a0 tl s v=INF∨(-2147483648≤lay a0 tl s v∧lay a0 tl s v≤2147483648):=by
 rcases QpG (a0:=a0) hs s h v with g | g
 ·exact .inl g
 ·right;omega
theorem QyZ {E:List Ed} (hs:QfN E) {first a0:Nat}:∀(k:Nat) (st:WkB),k≤50→first<E.length→-((100 - (k:Int)) * 2097152)≤st.2.2→st.2.2≤(100 - (k:Int)) * 2097152→
  lay a0 (E.drop (first+1)) k st.1<INF→st.2.2+lay a0 (E.drop (first+1)) k st.1<0→
  ∃js:List Nat,(outS E (lay a0 (E.drop (first+1))) first k st).2.1=st.2.1++js.map (fun (j:Nat)=>(j:Int))∧js.length=k∧(∀j∈js,j<E.length)∧walk st.1 a0 (js.map fun j=>E.getD j e0B)∧st.2.2+esum (js.map fun j=>E.getD j e0B)<0:=by
 intro k
 have u0:INF=1099511627776:=rfl
 induction k with
 | zero=>
  intro st _ hf b1 b2 h1 h2
  have e:lay a0 (E.drop (first+1)) 0 st.1=if st.1=a0 then 0 else INF:=rfl
  rw[e] at h1 h2
  by_cases h:st.1=a0
  ·rw[if_pos h] at h2
   exact⟨[],by simp[outS],rfl,fun j hj=>(by cases hj),h,by simpa[esum] using h2⟩
  ·rw[if_neg h] at h1;omega
 | succ k ih=>
  intro st hk hf b1 b2 h1 h2
  have hs2:=Qhh hs (first+1)
  obtain⟨x,hx,hxa,hxb,hxe⟩:=Qwv hs2 (by omega) h1
  obtain⟨q,hq,rfl⟩:=getElem_of_mem hx
  rw[length_drop] at hq
  rw[getElem_drop] at hxa hxb hxe
  have hj0:first+1+q<E.length:=by omega
  have cond:∀j,j<E.length→(((E.getD j e0B).a==st.1&&QeD (lay a0 (E.drop (first+1)) k) st.2.2 (E.getD j e0B).w (E.getD j e0B).b)=true↔(E.getD j e0B).a=st.1∧lay a0 (E.drop (first+1)) k (E.getD j e0B).b<INF∧st.2.2+(E.getD j e0B).w+lay a0 (E.drop (first+1)) k (E.getD j e0B).b<0):=by
   intro j hj
   have hw:=hs (E.getD j e0B) (by rw[Qht hj];exact getElem_mem hj)
   rw[Bool.and_eq_true,beq_iff_eq,Qly (by omega) hw (Qm6 hs2 (by omega) _)]
  obtain⟨j,g1,g2,g3,g4⟩:=Qww (E:=E) (L:=lay a0 (E.drop (first+1)) k) (E.length - (first+1)) (first+1) st (by omega) ⟨first+1+q,by omega,hj0,by
   rw[cond _ hj0,Qht hj0]
   exact⟨hxa,hxb,by omega⟩⟩
  rw[cond j g2] at g3
  have hw:=hs (E.getD j e0B) (by rw[Qht g2];exact getElem_mem g2)
  rw[w64 (by omega) (by omega)] at g4
  obtain⟨js,i1,i2,i3,i4,i5⟩:=ih ((E.getD j e0B).b,st.2.1++[(j:Int)],st.2.2+(E.getD j e0B).w) (by omega) hf (by simp only;omega) (by simp only;omega) g3.2.1 g3.2.2
  refine⟨j::js,?_,by simp[i2],?_,?_,?_⟩
  ·unfold outS
   rw[g4,i1];simp
  ·intro x hx
   rcases mem_cons.1 hx with rfl | hx
   ·exact g2
   ·exact i3 x hx
  ·exact⟨g3.1,i4⟩
  ·simp only[map_cons,QdN] at i5 ⊢;omega
theorem QuI {E:List Ed} (hs:QfN E) {many first:Nat} (h1:1≤many) (h2:many≤50) (hf:first<E.length) (hne:(Qbs E many first).isEmpty=false):
  ∃js:List Nat,Qbs E many first=js.map (fun (j:Nat)=>(j:Int))∧js.length=many∧(∀j∈js,j<E.length)∧∃i,walk i i (js.map fun j=>E.getD j e0B)∧esum (js.map fun j=>E.getD j e0B)<0:=by
 rw[Qkj] at hne
 have hg:QeD (lay (E.getD first e0B).a (E.drop (first+1)) (many - 1)) (E.getD first e0B).w 0 (E.getD first e0B).b=true:=by simpa using hne
 have hw:=hs (E.getD first e0B) (by rw[Qht hf];exact getElem_mem hf)
 have hg2:=hg
 rw[Qly (by omega) (by omega) (Qm6 (Qhh hs _) (by omega) _)] at hg2
 obtain⟨js,i1,i2,i3,i4,i5⟩:=QyZ hs (first:=first) (a0:=(E.getD first e0B).a) (many - 1) ((E.getD first e0B).b,[(first:Int)],(E.getD first e0B).w) (by omega) hf (by simp only;omega) (by simp only;omega) hg2.1 (by simp only;omega)
 refine⟨first::js,?_,by simp[i2];omega,?_,(E.getD first e0B).a,⟨rfl,i4⟩,?_⟩
 ·unfold Qbs
  rw[if_pos hg,i1];rfl
 ·intro x hx
  rcases mem_cons.1 hx with rfl | hx
  ·exact hf
  ·exact i3 x hx
 ·simp only[map_cons,QdN];exact i5
theorem Qqr {E:List Ed} (hs:QfN E) (hab:∀e∈E,e.a≠e.b) {j:Nat} {cs:List Ed} (hw:walk j j cs) (hn:esum cs<0) (hd:(cs.map Ed.a).Nodup) (hm:∀e∈cs,e∈E) (hl:cs.length≤50):
  2≤cs.length∧∃first,first<E.length∧(Qbs E cs.length first).isEmpty=false:=by
 classical
 have hne:∃y,y∈cs:=by
  cases cs with
  | nil=>simp[esum] at hn
  | cons y _=>exact⟨y,mem_cons_self ..⟩
 obtain⟨y,hy⟩:=hne
 have hex:∃x∈E,decide (x∈cs)=true:=⟨y,hm y hy,by simpa using hy⟩
 have hlt:=findIdx_lt_length_of_exists hex
 have hx0:decide (E[E.findIdx fun x=>decide (x∈cs)]∈cs)=true:=findIdx_getElem (p:=fun x=>decide (x∈cs)) (w:=hlt)
 have hmin:∀q,(hq:q<E.length)→E[q]∈cs→E.findIdx (fun x=>decide (x∈cs))≤q:=by
  intro q hq hqc
  refine Nat.le_of_not_lt fun h=>?_
  have:=not_of_lt_findIdx (p:=fun x=>decide (x∈cs)) h
  simp at this
  exact this hqc
 generalize E.findIdx (fun x=>decide (x∈cs))=first at hlt hx0 hmin
 have hx:E[first]∈cs:=by simpa using hx0
 obtain⟨x,hxe⟩:∃x,E[first]=x:=⟨_,rfl⟩
 rw[hxe] at hx
 obtain⟨p,r,rfl⟩:=append_of_mem hx
 obtain⟨k,w1,w2,w3⟩:=QhN.1 hw
 subst w2
 have hwalk:walk x.b x.a (r++p):=QhN.2 ⟨j,w3,w1⟩
 have hsum:esum (p++x::r)=x.w+esum (r++p):=by simp only[QpF,QdN];omega
 have hxE:x∈E:=hm x hx
 have hwx:=hs x hxE
 have hmem:∀e∈r++p,e∈E.drop (first+1):=by
  intro e he
  have hec:e∈p++x::r:=by
   rcases mem_append.1 he with h | h
   ·exact mem_append_right _ (mem_cons_of_mem _ h)
   ·exact mem_append_left _ h
  have hne:e.a≠x.a:=by
   intro h
   rw[map_append,map_cons,nodup_append] at hd
   obtain⟨_,d2,d3⟩:=hd
   rw[nodup_cons] at d2
   rcases mem_append.1 he with g | g
   ·exact d2.1 (h▸mem_map_of_mem g)
   ·exact d3 e.a (mem_map_of_mem g) x.a (mem_cons_self ..) h
  obtain⟨q,hq,rfl⟩:=getElem_of_mem (hm e hec)
  have h1:=hmin q hq hec
  have h2:q≠first:=by
   rintro rfl
   exact hne (by rw[hxe])
  have h3:q - (first+1)<(E.drop (first+1)).length:=by rw[length_drop];omega
  have h4:(E.drop (first+1))[q - (first+1)]=E[q]:=by
   rw[getElem_drop];congr 1;omega
  rw[←h4]
  exact getElem_mem h3
 have hlen:(p++x::r).length=(r++p).length+1:=by simp;omega
 rw[hlen] at hl ⊢
 refine⟨?_,first,hlt,?_⟩
 ·refine Nat.succ_le_succ (Nat.pos_of_ne_zero fun h=>?_)
  have:r++p=[]:=eq_nil_of_length_eq_zero h
  rw[this] at hwalk
  exact hab x hxE hwalk.symm
 ·rw[Qkj]
  have hgd:E.getD first ⟨0,0,0⟩=x:=(Qht hlt).trans hxe
  rw[hgd,Nat.add_sub_cancel]
  obtain⟨l1,l2⟩:=lay_le (a0:=x.a) (Qhh hs (first+1)) (r++p) x.b (by omega) hwalk hmem
  have:=(Qly (L:=lay x.a (E.drop (first+1)) (r++p).length) (sum:=x.w) (n:=0) (v:=x.b) (by omega) (by omega) (Qm6 (Qhh hs _) (by omega) _)).2 ⟨l1,by omega⟩
  rw[this];rfl
theorem Qf4 {α:Type}:∀(l s:List α),l.Nodup→(∀x∈l,x∈s)→l.length≤s.length:=by
 intro l
 induction l with
 | nil=>intro s _ _;simp
 | cons x l ih=>
  intro s hd hm
  rw[nodup_cons] at hd
  obtain⟨a,b,rfl⟩:=append_of_mem (hm x (mem_cons_self ..))
  have:=ih (a++b) hd.2 fun y hy=>by
   have hy2:=hm y (mem_cons_of_mem _ hy)
   have hyx:y≠x:=by rintro rfl;exact hd.1 hy
   rcases mem_append.1 hy2 with h | h
   ·exact mem_append_left _ h
   ·rcases mem_cons.1 h with h | h
    ·exact (hyx h).elim
    ·exact mem_append_right _ h
  simp only[length_append,length_cons] at this ⊢
  omega
end Go.Proofs.YtlajingmjmnfgaaGreatDoor
namespace Go.Proofs.YtlajingmjmnfgaaGreatDoor
open Go.Sim
theorem QnK {m:Nat} {l:List QM} (hv:Qzz m l):QfN (l.map (edN m)):=by
 intro x hx
 obtain⟨d,hd,rfl⟩:=mem_map.1 hx
 obtain⟨_,_,_,_,_,a6,a7⟩:=hv.ok d hd
 exact⟨a6,a7⟩
theorem Qwx {m:Nat} {l:List QM} (hv:Qzz m l):∀e∈l.map (edN m),e.a≠e.b:=by
 intro x hx
 obtain⟨d,hd,rfl⟩:=mem_map.1 hx
 obtain⟨a1,a2,a3,a4,a5,_⟩:=hv.ok d hd
 have:=hv.m1
 show rowN m d.A≠rowN m d.B
 unfold rowN
 split<;>split<;>omega
/-- A closed way of negative sum. -/
def NegE (m:Nat) (l:List QM):Prop:=∃i es,walk i i es∧esum es<0∧∀e∈es,e∈l.map (edN m)
/-- Out of some of the differences: a contradiction of few of them is found early. -/
theorem QnL {m:Nat} {l k:List QM} (hv:Qzz m l) (hk:Qzz m k) (hsub:∀x∈k,x∈l) (hn:NegE m k):
  ∃q first,2≤q∧q≤m∧q≤k.length∧first<l.length∧(Qbs (l.map (edN m)) q first).isEmpty=false:=by
 obtain⟨i,es,h1,h2,h3⟩:=hn
 obtain⟨j,cs,g1,g2,g3,g4⟩:=Qsl es.length es i (Nat.le_refl _) h1 h2
 have hm11:=hv.m11
 have hcm:cs.length≤m:=by
  have:=Qf4 (cs.map Ed.a) (range m) g3 fun x hx=>by
   obtain⟨e,he,rfl⟩:=mem_map.1 hx
   exact mem_range.2 (eds_w hk e (h3 e (g4 e he))).1
  simpa using this
 have hck:cs.length≤k.length:=by
  have:=Qf4 (cs.map Ed.a) ((k.map (edN m)).map Ed.a) g3 fun x hx=>by
   obtain⟨e,he,rfl⟩:=mem_map.1 hx
   exact mem_map_of_mem (h3 e (g4 e he))
  simpa using this
 have hin:∀e∈cs,e∈l.map (edN m):=by
  intro e he
  obtain⟨d,hd,rfl⟩:=mem_map.1 (h3 e (g4 e he))
  exact mem_map_of_mem (hsub d hd)
 obtain⟨f1,first,f2,f3⟩:=Qqr (QnK hv) (Qwx hv) g1 g2 g3 hin (by omega)
 exact⟨cs.length,first,f1,hcm,hck,by simpa using f2,f3⟩
theorem Qsm {m:Nat} {l:List QM} (hv:Qzz m l):cycS ((m:Int) - 1) l=match Qd3 (Qbs (l.map (edN m))) l.length (m - 1) 2 with | some p=>(p,0) | none=>([],6):=by
 unfold cycS
 rw[if_neg (by rw[QuE hv];simp),show ((m:Int) - 1+1).toNat=m by omega,show ((m:Int) - 1).toNat=m - 1 by omega]
 all_goals rfl
/-- Of the list js all but that at place s. -/
def pick (d:List QM) (js:List Nat) (s:Int) (i:Nat):List QM:=(range i).flatMap fun (q:Nat)=>if (q:Int)≠s then [d.getD (js.getD q 0) ⟨0,0,0⟩] else []
theorem Qjs {d:List QM} {js:List Nat} {s:Int} {i:Nat} {x:QM}:x∈pick d js s i↔∃q:Nat,q<i∧(q:Int)≠s∧x=d.getD (js.getD q 0) ⟨0,0,0⟩:=by
 unfold pick
 simp only[mem_flatMap,mem_range]
 constructor
 ·rintro ⟨q,hq,hx⟩
  split at hx
  ·next h=>exact⟨q,hq,h,mem_singleton.1 hx⟩
  ·cases hx
 ·rintro ⟨q,hq,h,rfl⟩
  exact⟨q,hq,by rw[if_pos h];exact mem_singleton.2 rfl⟩
theorem QuJ {d:List QM} {js:List Nat} {s:Int} {i:Nat}:pick d js s (i+1)=pick d js s i++(if (i:Int)≠s then [d.getD (js.getD i 0) ⟨0,0,0⟩] else []):=QuF
theorem QpH {d:List QM} {js:List Nat} {s:Int}:∀i,(pick d js s i).length≤i∧(0≤s→s<i→(pick d js s i).length+1≤i):=by
 intro i
 induction i with
 | zero=>exact⟨by simp[pick],fun h1 h2=>by omega⟩
 | succ i ih=>
  rw[QuJ,length_append]
  by_cases h:(i:Int)=s
  ·rw[if_neg (by simpa using h)]
   simp only[length_nil]
   exact⟨by omega,fun _ _=>by omega⟩
  ·rw[if_pos h]
   simp only[length_cons,length_nil]
   exact⟨by omega,fun h1 h2=>by have:=ih.2 h1 (by omega);omega⟩
theorem Qzx {m:Nat} {l:List QM} (hv:Qzz m l) {p:List Int} (h:Qd3 (Qbs (l.map (edN m))) l.length (m - 1) 2=some p):
  ∃js:List Nat,p=js.map (fun (j:Nat)=>(j:Int))∧(∀j∈js,j<l.length)∧2≤js.length∧js.length≤m∧NegE m l∧
   ∀s:Int,-1≤s→s<js.length→Qzz m (pick l js s js.length)∧(NegE m (pick l js s js.length)↔s<0):=by
 obtain⟨q,i,h1,h2,h3,h4,h5,_,h7⟩:=Qmr _ _ h
 have hm11:=hv.m11
 rw[h4] at h5
 obtain⟨js,g1,g2,g3,i0,g4,g5⟩:=QuI (QnK hv) (show 1≤q by omega) (by omega) (by simpa using h3) h5
 have g3':∀j∈js,j<l.length:=fun j hj=>by simpa using g3 j hj
 have hed:∀j,j<l.length→(l.map (edN m)).getD j e0B=edN m (l.getD j ⟨0,0,0⟩):=fun j hj=>by
  rw[Qht (by simpa using hj),getD_eq_getElem?_getD,getElem?_eq_getElem hj];simp
 have hin:∀e∈js.map (fun j=>(l.map (edN m)).getD j e0B),∃q,q<js.length∧e=edN m (l.getD (js.getD q 0) ⟨0,0,0⟩):=by
  intro e he
  obtain⟨j,hj,rfl⟩:=mem_map.1 he
  obtain⟨q,hq,rfl⟩:=getElem_of_mem hj
  refine⟨q,hq,?_⟩
  rw[hed _ (g3' _ hj),getD_eq_getElem?_getD (l:=js),getElem?_eq_getElem hq];rfl
 have hjl:∀q,q<js.length→js.getD q 0<l.length:=fun q hq=>by
  rw[getD_eq_getElem?_getD,getElem?_eq_getElem hq];exact g3' _ (getElem_mem hq)
 have hgl:∀j,j<l.length→l.getD j ⟨0,0,0⟩∈l:=fun j hj=>by
  rw[getD_eq_getElem?_getD,getElem?_eq_getElem hj];exact getElem_mem hj
 refine⟨js,h4.trans g1,g3',by omega,by omega,?_,fun s hs1 hs2=>?_⟩
 ·refine⟨i0,_,g4,g5,fun e he=>?_⟩
  obtain⟨q,hq,rfl⟩:=hin e he
  exact mem_map_of_mem (hgl _ (hjl q hq))
 ·have hsub:∀x∈pick l js s js.length,x∈l:=by
   intro x hx
   obtain⟨q,hq,_,rfl⟩:=Qjs.1 hx
   exact hgl _ (hjl q hq)
  have hvp:Qzz m (pick l js s js.length):=⟨hv.m1,hv.m11,by have:=(QpH (d:=l) (js:=js) (s:=s) js.length).1;omega,fun x hx=>hv.ok x (hsub x hx)⟩
  refine⟨hvp,?_⟩
  by_cases h0:s<0
  ·refine⟨fun _=>h0,fun _=>⟨i0,_,g4,g5,fun e he=>?_⟩⟩
   obtain⟨q,hq,rfl⟩:=hin e he
   exact mem_map_of_mem (Qjs.2 ⟨q,hq,by omega,rfl⟩)
  ·refine⟨fun hn=>?_,fun h=>absurd h h0⟩
   obtain⟨q',first,f1,f2,f3,f4,f5⟩:=QnL hv hvp hsub hn
   have:=(QpH (d:=l) (js:=js) (s:=s) js.length).2 (by omega) hs2
   have:=h7 q' f1 (by omega) first f4
   rw[this] at f5;cases f5
theorem Qzy {m:Nat} {l:List QM} (hv:Qzz m l) (h:Qd3 (Qbs (l.map (edN m))) l.length (m - 1) 2=none):¬NegE m l:=fun hn=>by
 obtain⟨q,first,f1,f2,_,f4,f5⟩:=QnL hv hv (fun x hx=>hx) hn
 have:=Qsj _ _ h q f1 (by omega) first f4
 rw[this] at f5;cases f5
end Go.Proofs.YtlajingmjmnfgaaGreatDoor
namespace Go.Proofs.YtlajingmjmnfgaaGreatDoor
open Go.Sim
end Go.Proofs.YtlajingmjmnfgaaGreatDoor
namespace Go.Proofs.YtlajingmjmnfgaaGreatDoor
open Go.Sim
end Go.Proofs.YtlajingmjmnfgaaGreatDoor
namespace Go.Proofs.YtlajingmjmnfgaaGreatDoor
open Go.Sim
end Go.Proofs.YtlajingmjmnfgaaGreatDoor
namespace Go.Proofs.YtlajingmjmnfgaaGreatDoor
open Go.Sim
end Go.Proofs.YtlajingmjmnfgaaGreatDoor
namespace Go.Proofs.YtlajingmjmnfgaaGreatDoor
open Go.Sim
theorem Qrk {i j lo hi n:Int} {y:Qg} (h:y∈Qe1 Qg.mk i j lo hi) (h0:0≤i) (h1:i<n) (j0:-1≤j) (j1:j<i) (hl:0≤lo∧lo≤hi∧hi≤65536):VL y n∧y.B<y.A:=by
 simp only[Qe1,mem_cons,not_mem_nil,or_false] at h
 rcases h with rfl | rfl
 ·exact⟨⟨h0,h1,j0,by dsimp only;omega,hl.1,by dsimp only;omega⟩,j1⟩
 ·exact⟨⟨h0,h1,j0,by dsimp only;omega,by dsimp only;omega,hl.2.2⟩,j1⟩
theorem Qk9 {x:Qa} (hc:QP x=[]) {i j:Nat} (hi:i<x.Kinds.length) (hj:j<x.Kinds[i].Fields.length) (hk:x.Kinds[i].Fields[j].Kind=1):0≤kindIx x x.Kinds[i].Fields[j].Of∧kindIx x x.Kinds[i].Fields[j].Of<(i:Int):=by
 have hf:field? x (i:Int) (j:Int)=some x.Kinds[i].Fields[j]:=by
  unfold field?
  rw[if_pos ⟨by omega,by omega⟩,Int.toNat_natCast,Int.toNat_natCast,getElem?_eq_getElem hi,Option.bind_some,getElem?_eq_getElem hj]
 have h:=Qpo (clean hc (QY hi) hf) (.inl hk)
 unfold upIx at h
 rw[hf] at h
 dsimp only at h
 rw[if_neg (by omega),if_pos hk] at h
 unfold Qgc at h
 split at h
 ·exact⟨h,by assumption⟩
 ·omega
theorem QuK {x:Qa} (hc:QP x=[]):∀y∈limL Qg.mk x,VL y (x.Kinds.length:Int)∧y.B<y.A:=by
 intro y hy
 have hv:=Qal hc
 unfold limL at hy
 obtain⟨i,hi,hy⟩:=mem_flatMap.1 hy
 rw[mem_range] at hi
 have hK:=hv.kind _ (getElem_mem hi)
 unfold kndL at hy
 rw[getElem?_eq_getElem hi] at hy
 dsimp only at hy
 rcases mem_append.1 hy with hy | hy
 ·have hs:=hK
  simp only[kindS,Bool.and_eq_true] at hs
  exact Qrk hy (by omega) (by omega) (Int.le_refl _) (by omega) (Qcg hs.1.1.2)
 ·obtain⟨j,hj,hy⟩:=mem_flatMap.1 hy
  rw[mem_range] at hj
  unfold fldL at hy
  rw[getElem?_eq_getElem hj] at hy
  dsimp only at hy
  by_cases hk:x.Kinds[i].Fields[j].Kind=1
  ·rw[if_pos (by simpa using hk)] at hy
   obtain⟨r0,r1⟩:=Qk9 hc hi hj hk
   have hF:=(Qcl hK).2.2 _ (getElem_mem hj)
   simp only[fieldS,Bool.and_eq_true] at hF
   have hp:=hF.2
   unfold Qdt at hp
   rw[if_neg (by omega),if_pos hk,Bool.and_eq_true] at hp
   exact Qrk hy (by omega) (by omega) (by omega) r1 (Qcg hp.2)
  ·rw[if_neg (by simpa using hk)] at hy
   cases hy
end Go.Proofs.YtlajingmjmnfgaaGreatDoor

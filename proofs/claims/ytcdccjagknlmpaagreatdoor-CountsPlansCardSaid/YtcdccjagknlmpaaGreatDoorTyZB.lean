/- The reference model's Check: fields, kinds, rules. No condition. -/
import Derived.Test.YtcdccjagknlmpaaGreatDoorTyJ
namespace Go.Proofs.YtcdccjagknlmpaaGreatDoor
open Go.Sim

theorem Qqx {x:Qg} {k j:Int} (h:j<0):field? x k j=none:=by
 unfold field?;rw[if_neg (by omega)]
theorem Qud {x:Qg} {k j:Int} {f:Qb} (h:field? x k j=some f):∃q∈x.Kinds,f∈q.Fields:=by
 obtain⟨q,_,hj,_,hf,hm,_⟩:=Qct h
 rw[QgX _ hj] at hf
 exact⟨q,hm,List.mem_of_getElem? hf⟩
theorem Que {x:Qg} {k j:Int} {q:Qj} {f:Qb} (hx:Few x) (hq:idx x.Kinds k=some q) (hf:field? x k j=some f):
  Qhl x k j=some (if (topS x k j f).2=true then ((topS x k j f).1.Kind,(topS x k j f).1) else (-1,Qdu)):=by
 obtain⟨q',hk,hj,hq',hqf,hqm,hkl,hjl⟩:=Qct hf
 rw[hq] at hq';cases hq'
 unfold Qhl topS
 rw[Qlu hx]
 simp only[Option.bind_some]
 by_cases hu:upIx x k j<0
 ·rw[if_pos (by simpa using hu),if_pos hu];rfl
 ·rw[if_neg (by simpa using hu),if_neg hu]
  have h1:=Qsl x k j hk
  obtain⟨r,hr,hrm⟩:=Qdm (l:=x.Kinds) (i:=upIx x k j) (by omega) (by omega)
  rw[hr,hq]
  simp only[Option.bind_some]
  rw[hqf]
  simp only[Option.bind_some]
  rw[Qf2 (by have:=hx.2 r hrm;omega)]
  simp only[Option.bind_some]
  have hrange:=QhN r.Fields fun g=>g.Name==f.Of
  have hr2:Qav r f.Of<r.Fields.length:=hrange.2
  by_cases hi:Qav r f.Of<0
  ·rw[if_pos (by simpa using hi),Qqx hi];rfl
  ·rw[if_neg (by simpa using hi)]
   obtain⟨g,hg,_⟩:=Qdm (l:=r.Fields) (i:=Qav r f.Of) (by omega) hr2
   rw[Qhs (by omega) (by omega) hr hg,hg];rfl
theorem Qxe {x:Qg} {k j:Int} {f:Qb} (h:(topS x k j f).2=true):∃q∈x.Kinds,(topS x k j f).1∈q.Fields:=by
 unfold topS at h ⊢
 split at h
 ·cases h
 ·rename_i hu
  rw[if_neg hu]
  split at h
  ·cases h
  ·rename_i q hq
   cases hf:field? x (upIx x k j) (Qav q f.Of) with
   | none=>rw[hf] at h;cases h
   | some g=>exact Qud hf

/-- The kinds of fields are known. -/
def Known (x:Qg):Prop:=∀q∈x.Kinds,∀g∈q.Fields,0≤g.Kind∧g.Kind≤8
theorem QrP {x:Qg} (h:QgO x=0):Known x:=by
 intro q hq g hg
 unfold QgO at h
 split at h
 ·rename_i hv
  exact (Qj3 ((Qi0 ((Qlg hv).kind q hq)).2.2 g hg)).kind
 ·cases h
theorem Qpv (a:Bool) (c:Int):Qbk [⟨a,c⟩]=if a=true then c else 0:=rfl
theorem QlY (a b:Bool) (c d:Int):Qbk [⟨a,c⟩,⟨b,d⟩]=if a=true then c else if b=true then d else 0:=rfl
theorem Quf {x:Qg} {k j:Int} {q:Qj} {f:Qb} (hx:Few x) (hl:x.Lives.length≤1000) (hn:Known x) (hq:idx x.Kinds k=some q) (hf:field? x k j=some f):Qhm x k j=some (QjR x q k j f):=by
 obtain⟨q',hk,hj,hq',hqf,hqm,hkl,hjl⟩:=Qct hf
 rw[hq] at hq';cases hq'
 have hab:=Que hx hq hf
 have hkind:0≤f.Kind∧f.Kind≤8:=by rw[QgX _ hj] at hqf;exact hn q hqm f (List.mem_of_getElem? hqf)
 unfold Qhm
 rw[hq]
 simp only[Option.bind_some]
 rw[hqf]
 simp only[Option.bind_some]
 rw[Qlu hx,Qf2 (by have:=hx.2 q hqm;omega),Qxd hx hf]
 simp only[Option.bind_some]
 unfold jn
 dsimp only
 unfold QjR
 by_cases c0:f.Kind=0
 ·rw[if_pos c0,Qpv,c0]
  by_cases hj0:j>0
  ·rw[decide_eq_true hj0];rfl
  ·rw[decide_eq_false hj0];rfl
 have n0:(f.Kind==0)=false:=by simpa using c0
 rw[if_neg c0,n0]
 simp only[Bool.false_and]
 rw[if_neg (by decide),if_neg (by decide)]
 by_cases c1:f.Kind=1
 ·rw[if_pos c1,Qpv,c1]
  show (if decide (upIx x k j<0)=true then some 12 else some 0)=_
  by_cases hu:upIx x k j<0
  ·rw[if_pos (by simpa using hu),if_pos (by simpa using hu)]
  ·rw[if_neg (by simpa using hu),if_neg (by simpa using hu)]
 rw[if_neg c1]
 by_cases c2:f.Kind=2
 ·rw[c2];rfl
 by_cases c3:f.Kind=3
 ·rw[c3];rfl
 have n1:(f.Kind==1)=false:=by simpa using c1
 have n2:(f.Kind==2)=false:=by simpa using c2
 have n3:(f.Kind==3)=false:=by simpa using c3
 rw[n1,n2,n3]
 simp only[Bool.false_eq_true,if_false,Option.bind_some]
 by_cases c4:f.Kind=4
 ·rw[if_pos c4,Qpv,if_pos (by simp[c4])]
  by_cases ho:f.Of=[]
  ·rw[if_pos (by simp[ho]),if_neg (by simp[ho])]
  ·rw[if_neg (by simpa using ho)]
   have ho':(f.Of !=[])=true:=by simpa using ho
   rw[ho',Bool.true_and]
   by_cases hr:Qav q f.Of<0∨Qav q f.Of≥j
   ·have:(decide (Qav q f.Of<0)||decide (Qav q f.Of≥j))=true:=by simpa using hr
    rw[this,Bool.true_or];rfl
   ·have e:(decide (Qav q f.Of<0)||decide (Qav q f.Of≥j))=false:=by
     rw[Bool.eq_false_iff];simpa using hr
    obtain⟨g,hg,_⟩:=Qdm (l:=q.Fields) (i:=Qav q f.Of) (by omega) (by omega)
    rw[e,Bool.false_or,Qhs hk (by omega) hq hg,hg]
    rw[if_neg (by decide)]
    simp only[Option.bind_some]
    cases g.Kind !=4<;>rfl
 have n4:(f.Kind==4)=false:=by simpa using c4
 rw[if_neg c4,n4,if_neg (by decide)]
 by_cases c5:f.Kind=5
 ·rw[if_pos c5,Qpv,if_pos (by simp[c5]),Qeg x.Lives (fun l=>!(l.Name==f.Of)) (0:Int) (fun n hn=>?_) (if_neg (by simp))]
  ·simp only[Option.bind_some]
   have e:(x.Lives.all fun l=>!(l.Name==f.Of))=!(x.Lives.any fun l=>l.Name==f.Of):=by
    rw[List.not_any_eq_all_not]
   rw[e]
   cases (x.Lives.any fun l=>l.Name==f.Of)<;>rfl
  ·rw[if_pos (decide_eq_true (Int.ofNat_lt.2 hn)),Qaa hn]
   simp only[Option.bind_some]
   rw[Q1 hn (by omega)]
   cases x.Lives[n].Name==f.Of<;>rfl
 have n5:(f.Kind==5)=false:=by simpa using c5
 rw[if_neg c5,n5,if_neg (by decide)]
 by_cases c6:f.Kind=6
 ·rw[if_pos c6,QlY,if_pos (by simp[c6])]
  cases decide ((Qlf x k f).1<0)<;>cases ((Qlf x k f).2.length:Int) !=1<;>rfl
 have n6:(f.Kind==6)=false:=by simpa using c6
 rw[if_neg c6,n6,if_neg (by decide)]
 unfold QiU
 rw[hab,hq]
 simp only[Option.bind_some]
 rw[hqf]
 simp only[Option.bind_some]
 by_cases hu:upIx x k j<0
 ·rw[if_pos (by simpa using hu)]
  by_cases c7:f.Kind=7
  ·rw[if_pos c7,QlY,if_pos (by simpa using hu)];rfl
  ·have c8:f.Kind=8:=by omega
   rw[if_neg c7,if_pos c8,QlY,if_pos (by simpa using hu)];rfl
 rw[if_neg (by simpa using hu)]
 have hud:decide (upIx x k j<0)=false:=by simpa using hu
 by_cases c7:f.Kind=7
 ·have e7:(f.Kind==7)=true:=by simp[c7]
  rw[if_pos c7,QlY,hud,e7]
  cases ht:(topS x k j f).2 with
  | false=>rfl
  | true=>
   simp only[Bool.false_eq_true,if_false,if_true]
   rw[Qfn (by have:=hx.1;omega)]
   cases h6:((topS x k j f).1.Kind !=6) with
   | true=>rfl
   | false=>
    simp only[Sim.opt,beq_self_eq_true,if_true,Option.bind_some]
    cases Q4 x (topS x k j f).1.Of !=k<;>rfl
 ·have c8:f.Kind=8:=by omega
  have n7:(f.Kind==7)=false:=by simpa using c7
  rw[if_neg c7,if_pos c8,QlY,hud,n7]
  cases ht:(topS x k j f).2 with
  | false=>rfl
  | true=>
   obtain⟨r,hr,hg⟩:=Qxe ht
   have hgk:=hn r hr _ hg
   have hz:(topS x k j f).1.Kind=0∨(topS x k j f).1.Kind=1∨(topS x k j f).1.Kind=2∨(topS x k j f).1.Kind=3∨(topS x k j f).1.Kind=4∨(topS x k j f).1.Kind=5∨(topS x k j f).1.Kind=6∨(topS x k j f).1.Kind=7∨(topS x k j f).1.Kind=8:=by omega
   simp only[Bool.false_eq_true,if_false,if_true]
   unfold Qt7
   rcases hz with h | h | h | h | h | h | h | h | h<;>rw[h]<;>rfl

end Go.Proofs.YtcdccjagknlmpaaGreatDoor

namespace Go.Proofs.YtcdccjagknlmpaaGreatDoor
open Go.Sim

def toR (p:Qt):QP:=⟨p.Kind,p.Field,p.Rule,p.Code⟩
end Go.Proofs.YtcdccjagknlmpaaGreatDoor

namespace Go.Proofs.YtcdccjagknlmpaaGreatDoor
open Go.Sim

theorem QsT {x:Qg} {k:Int} {q:Qj} {n:Str} (hk:0≤k) (hq:idx x.Kinds k=some q) (hn:(n==([]:Str))=false):
  (Qdv x k n=true∧Qav q n<0)∨∃g,Qdv x k n=false∧0≤Qav q n∧idx q.Fields (Qav q n)=some g∧Qdo x k n=((g.Kind !=2)&&(g.Kind !=4)):=by
 have hd:decide (k<0)=false:=decide_eq_false (by omega)
 have hr2:Qav q n<q.Fields.length:=(QhN q.Fields fun g=>g.Name==n).2
 unfold Qdv Qdo Qny
 rw[hq,hn,hd]
 dsimp only
 by_cases hi:Qav q n<0
 ·rw[Qqx hi];exact .inl ⟨rfl,hi⟩
 ·obtain⟨g,hg,_⟩:=Qdm (l:=q.Fields) (i:=Qav q n) (by omega) hr2
  rw[Qhs hk (by omega) hq hg]
  exact .inr ⟨g,rfl,by omega,hg,by simp⟩
theorem Qug {x:Qg} {i:Nat} {r:Qm} (hx:Few x) (hl:x.Rules.length≤1000) (hi:i<x.Rules.length) (hr:x.Rules[i]?=some r):Qhn x (i:Int)=some (Qpp x i r):=by
 unfold Qhn
 rw[QlS,hr]
 simp only[Option.bind_some]
 have hil:(x.Rules.take i).length=i:=by rw[List.length_take];omega
 rw[Qeg (x.Rules.take i) (fun s=>!(s.Name==r.Name)) (7:Int) (fun n hn=>?_) (by rw[hil];exact if_neg (by simp))]
 ·simp only[Option.bind_some]
  have e:((x.Rules.take i).all fun s=>!(s.Name==r.Name))=!((x.Rules.take i).any fun s=>s.Name==r.Name):=by
   rw[List.not_any_eq_all_not]
  rw[e]
  unfold Qpp
  cases hany:((x.Rules.take i).any fun s=>s.Name==r.Name) with
  | true=>rfl
  | false=>
   simp only[Bool.not_false,if_true]
   rw[Qfn (by have:=hx.1;omega)]
   simp only[Option.bind_some]
   by_cases hk:Q4 x r.Kind<0
   ·rw[if_pos (by simpa using hk),decide_eq_true hk];rfl
   ·rw[if_neg (by simpa using hk),decide_eq_false hk]
    obtain⟨q,hq,hqm⟩:=Qdm (l:=x.Kinds) (i:=Q4 x r.Kind) (by omega) (Qj2 x r.Kind).2
    rw[hq]
    unfold jn
    dsimp only
    have fin:∀{body:Int×Bool→Option ((Int×Bool)⊕(Bool⊕Int))},(∀b,body (0,b)=if Qdv x (Q4 x r.Kind) r.A=true then some (.inr (.inr 12)) else some (.inl (1,b||Qdo x (Q4 x r.Kind) r.A)))→
      (∀b,body (1,b)=if Qdv x (Q4 x r.Kind) r.B=true then some (.inr (.inr 12)) else some (.inl (2,b||Qdo x (Q4 x r.Kind) r.B)))→(∀b,body (2,b)=some (.inr (.inl b)))→
      QG body (0,false)=some (if (Qdv x (Q4 x r.Kind) r.A||Qdv x (Q4 x r.Kind) r.B)=true then .inr 12 else .inl (Qdo x (Q4 x r.Kind) r.A||Qdo x (Q4 x r.Kind) r.B)):=fun h0 h1 h2=>by
     rw[Qco,h0]
     cases Qdv x (Q4 x r.Kind) r.A with
     | true=>rfl
     | false=>
      rw[if_neg (by decide)]
      dsimp only
      rw[Qco,h1]
      cases Qdv x (Q4 x r.Kind) r.B with
      | true=>rfl
      | false=>
       rw[if_neg (by decide)]
       dsimp only
       rw[Qco,h2]
       simp
    have step:∀(n:Str) (b:Bool) (c:Bool→Option ((Int×Bool)⊕(Bool⊕Int))),(if (n==([]:Str))=true then c b else (Option.some q).bind fun t55=>(Option.some n).bind fun t59=>(QcR t55 t59).bind fun t61=>if decide (t61<0)=true then some (.inr (.inr 12)) else (Option.some q).bind fun t67=>(idx t67.Fields t61).bind fun t71=>c (b||((t71.Kind !=2)&&(t71.Kind !=4))))=
      if Qdv x (Q4 x r.Kind) n=true then some (.inr (.inr 12)) else c (b||Qdo x (Q4 x r.Kind) n):=fun n b c=>by
     cases hn:(n==([]:Str)) with
     | true=>
      have hm:Qdv x (Q4 x r.Kind) n=false:=by unfold Qdv;rw[hn];rfl
      have hw:Qdo x (Q4 x r.Kind) n=false:=by unfold Qdo;rw[hn];rfl
      rw[hm,hw,if_pos rfl,if_neg (by decide),Bool.or_false]
     | false=>
      rw[if_neg (by decide)]
      simp only[Option.bind_some]
      rw[Qf2 (by have:=hx.2 q hqm;omega)]
      simp only[Option.bind_some]
      rcases QsT (by omega) hq hn with⟨hm,hi⟩ | ⟨g,hm,hi,hg,hw⟩
      ·rw[hm,if_pos (by simpa using hi),if_pos rfl]
      ·rw[hm,hw,if_neg (by simp;omega),if_neg (by decide),hg];rfl
    rw[fin (fun b=>(step r.A b fun p=>some (.inl (1,p)))) (fun b=>(step r.B b fun p=>some (.inl (2,p)))) (fun b=>rfl)]
    simp only[Option.bind_some]
    cases Qdv x (Q4 x r.Kind) r.A<;>cases Qdv x (Q4 x r.Kind) r.B<;>cases Qdo x (Q4 x r.Kind) r.A<;>cases Qdo x (Q4 x r.Kind) r.B<;>cases (r.A==r.B)<;>rfl
 ·have hn':n<i:=by omega
  rw[if_pos (decide_eq_true (Int.ofNat_lt.2 hn')),Qaa (show n<x.Rules.length by omega)]
  simp only[Option.bind_some]
  rw[Q1 hn' (by omega),List.getElem_take]
  cases x.Rules[n].Name==r.Name<;>rfl

theorem Qjv {k j r e:Int} {l:List QP} (h:l.length≤1000000000):Qcs l k j r e=some (l++(prob k j r e).map toR):=by
 unfold Qcs prob
 by_cases he:e=0
 ·rw[if_pos (by simp[he]),if_pos he,List.map_nil,List.append_nil]
 ·rw[if_neg (by simpa using he),if_neg he,Qg8 (by rw[List.length_singleton];omega)];rfl
theorem Qve (l:List Qb):Qhj l=some (!(((l.length:Int)==0)||((l.headD Qdu).Kind !=0))):=by
 unfold Qhj
 cases l with
 | nil=>rfl
 | cons f l=>
  have e:(((f::l).length:Int)==0)=false:=by simp;omega
  rw[e,show idx (f::l) (0:Int)=some f from rfl,if_neg (by decide)]
  simp[bne]
theorem Quh {x:Qg} (h:Qkt x):Qho x=some ((QcT x).map toR):=by
 obtain⟨hx,hfine,hlv,hrl⟩:=h
 unfold Qho
 rw[Quc hfine]
 simp only[Option.bind_some]
 unfold QcT
 by_cases hv:QgO x=0
 ·rw[if_neg (by simp[hv]),if_pos hv]
  have hn:=QrP hv
  have one:∀k j r e,((prob k j r e).map toR).length≤1:=fun k j r e=>by rw[List.length_map];exact Qij k j r e
  have b0:∀j,((Qha x j).map toR).length≤1:=fun j=>by rw[List.length_map];exact Qli x j
  have b1:((Qer x).map toR).length≤1000:=by
   have:=QdY x.Lives.length (Qha x) 1 (fun j _=>Qli x j)
   rw[List.length_map]
   unfold Qer;omega
  have kl:∀k,k<x.Kinds.length→((Qhb x k).map toR).length≤1001:=fun k hk=>by
   rw[List.length_map]
   unfold Qhb
   rw[List.getElem?_eq_getElem hk]
   dsimp only
   have:=Qn9 (x:=x) (i:=k) (hx.2 _ (List.getElem_mem hk))
   have:=Qij k (-1) (-1) (Qks x k x.Kinds[k])
   rw[List.length_append];omega
  have b2:((Qhw x).map toR).length≤1001000:=by
   have:=QdY x.Kinds.length (fun k=>(Qhb x k).map toR) 1001 kl
   have:=hx.1
   unfold Qhw
   rw[List.map_flatMap]
   omega
  have hk1:=hx.1
  rw[Qhv x.Lives.length (fun k=>(Qha x k).map toR) 1 (fun j _=>b0 j) [] (fun k hk acc hacc=>?_) (fun acc=>if_neg (by simp))]
  ·rw[show ([]:List QP)++(List.range x.Lives.length).flatMap (fun k=>(Qha x k).map toR)=(Qer x).map toR by unfold Qer;rw[List.map_flatMap];rfl]
   simp only[Option.bind_some]
   rw[Qhv x.Kinds.length (fun k=>(Qhb x k).map toR) 1001 kl ((Qer x).map toR) (fun k hk acc hacc=>?_) (fun acc=>if_neg (by simp))]
   ·rw[show (Qer x).map toR++(List.range x.Kinds.length).flatMap (fun k=>(Qhb x k).map toR)=(Qer x).map toR++(Qhw x).map toR by unfold Qhw;rw[List.map_flatMap]]
    simp only[Option.bind_some]
    rw[Qhv x.Rules.length (fun k=>(Qlh x k).map toR) 1 (fun j _=>by rw[List.length_map];exact Qqw x j) ((Qer x).map toR++(Qhw x).map toR) (fun k hk acc hacc=>?_) (fun acc=>if_neg (by simp))]
    ·simp only[Option.bind_some]
     rw[List.map_append,List.map_append]
     unfold Qt9
     rw[List.map_flatMap]
    ·rw[List.length_append] at hacc
     rw[if_pos (decide_eq_true (Int.ofNat_lt.2 hk))]
     dsimp only
     rw[Qug hx hrl hk (List.getElem?_eq_getElem hk)]
     simp only[Option.bind_some]
     rw[Qjv (by omega)]
     simp only[Option.bind_some]
     unfold Qlh
     rw[Q1 hk (by omega),List.getElem?_eq_getElem hk]
   ·have hq:=Qaa hk
    have hqf:=hx.2 _ (List.getElem_mem hk)
    rw[if_pos (decide_eq_true (Int.ofNat_lt.2 hk))]
    dsimp only
    rw[hq]
    simp only[Option.bind_some]
    rw[Qfn (by omega),Qve]
    simp only[Option.bind_some]
    have ek:(if decide (Q4 x x.Kinds[k].Name<(k:Int))=true then (Qcs acc (k:Int) (-1) (-1) 7).bind fun t70=>some t70 else (if (!!(((x.Kinds[k].Fields.length:Int)==0)||((x.Kinds[k].Fields.headD Qdu).Kind !=0)))=true then (Qcs acc (k:Int) (-1) (-1) 11).bind fun t76=>some t76 else some acc).bind fun p320=>some p320)=
      some (acc++(prob (k:Int) (-1) (-1) (Qks x k x.Kinds[k])).map toR):=by
     unfold Qks
     rw[QlY,Qjv (by omega),Qjv (by omega),Bool.not_not]
     cases decide (Q4 x x.Kinds[k].Name<(k:Int)) with
     | true=>rfl
     | false=>
      cases (((x.Kinds[k].Fields.length:Int)==0)||((x.Kinds[k].Fields.headD Qdu).Kind !=0)) with
      | true=>rfl
      | false=>simp[prob]
    rw[ek]
    simp only[Option.bind_some]
    have pl:=one k (-1) (-1) (Qks x k x.Kinds[k])
    rw[Qhv x.Kinds[k].Fields.length (fun j=>(Qh7 x k x.Kinds[k] j).map toR) 1 (fun j _=>by rw[List.length_map];exact QmD x k _ j) _ (fun j hj acc2 hacc2=>?_) (fun acc=>if_neg (by simp))]
    ·simp only[Option.bind_some]
     unfold Qhb
     rw[Q1 hk (by omega),List.getElem?_eq_getElem hk,List.append_assoc,List.map_append]
     unfold QlX
     rw[List.map_flatMap]
    ·rw[List.length_append] at hacc2
     rw[if_pos (decide_eq_true (Int.ofNat_lt.2 hj))]
     dsimp only
     rw[Qaa hj]
     simp only[Option.bind_some]
     rw[Qf2 (by omega)]
     simp only[Option.bind_some]
     have hf:field? x (k:Int) (j:Int)=some x.Kinds[k].Fields[j]:=Qhs (by omega) (by omega) hq (Qaa hj)
     rw[Quf hx hlv hn hq hf]
     simp only[Option.bind_some]
     rw[Qjv (by omega),Qjv (by omega)]
     simp only[Option.bind_some]
     unfold Qh7 Qnz
     rw[Q1 hj (by omega),List.getElem?_eq_getElem hj]
     dsimp only
     by_cases hd:Qav x.Kinds[k] x.Kinds[k].Fields[j].Name<(j:Int)
     ·rw[if_pos (by simpa using hd),if_pos hd];rfl
     ·rw[if_neg (by simpa using hd),if_neg hd];rfl
  ·rw[List.length_nil] at hacc
   rw[if_pos (decide_eq_true (Int.ofNat_lt.2 hk))]
   dsimp only
   rw[Qjv (by omega)]
   simp only[Option.bind_some]
   have hil:(x.Lives.take k).length=k:=by rw[List.length_take];omega
   have hget:∀n,n<k→∀h:n<x.Lives.length,(x.Lives.take k)[n]?=some x.Lives[n]:=fun n hn h=>by
    rw[List.getElem?_take,if_pos hn,List.getElem?_eq_getElem h]
   refine QtI k (fun n=>match x.Lives[n]? with | some m=>m.Name==x.Lives[k].Name | none=>false) acc (fun _=>acc++(prob (-1) (k:Int) (-1) 7).map toR) (fun n hn hp=>?_) (fun n hn hp=>?_) (if_neg (by simp)) (fun hp=>?_) (fun n hn hp=>?_)
   ·rw[List.getElem?_eq_getElem (show n<x.Lives.length by omega)] at hp
    dsimp only at hp
    rw[if_pos (decide_eq_true (Int.ofNat_lt.2 hn)),Qaa (show n<x.Lives.length by omega),Qaa hk]
    simp only[Option.bind_some]
    rw[hp,if_neg (by decide),Q1 hn (by omega)]
   ·rw[List.getElem?_eq_getElem (show n<x.Lives.length by omega)] at hp
    dsimp only at hp
    rw[if_pos (decide_eq_true (Int.ofNat_lt.2 hn)),Qaa (show n<x.Lives.length by omega),Qaa hk]
    simp only[Option.bind_some]
    rw[hp,if_pos rfl]
   ·have e:((x.Lives.take k).any fun m=>m.Name==x.Lives[k].Name)=false:=by
     rw[List.any_eq_false]
     intro m hm
     obtain⟨n,hn,rfl⟩:=List.getElem_of_mem hm
     have h1:=hp n (by omega)
     rw[List.getElem?_eq_getElem (show n<x.Lives.length by omega)] at h1
     dsimp only at h1
     rw[List.getElem_take,h1];decide
    rw[Q1 hk (by omega)]
    unfold Qha QsP
    rw[List.getElem?_eq_getElem hk]
    dsimp only
    rw[e]
    simp[Qbk,prob]
   ·have e:((x.Lives.take k).any fun m=>m.Name==x.Lives[k].Name)=true:=by
     rw[List.getElem?_eq_getElem (show n<x.Lives.length by omega)] at hp
     exact List.any_eq_true.2 ⟨x.Lives[n],List.mem_of_getElem? (hget n hn (by omega)),hp⟩
    rw[Q1 hk (by omega)]
    unfold Qha QsP
    rw[List.getElem?_eq_getElem hk]
    dsimp only
    rw[e]
    rfl
 ·rw[if_pos (by simpa using hv),if_neg hv,Qjv (by simp)]
  unfold prob
  rw[if_neg hv];rfl

end Go.Proofs.YtcdccjagknlmpaaGreatDoor

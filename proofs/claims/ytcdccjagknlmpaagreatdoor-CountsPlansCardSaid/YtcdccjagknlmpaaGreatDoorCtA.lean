/- Counts: the generators of limits and of numbers give a result; Holds, both ways. No condition. -/
import Derived.Test.YtcdccjagknlmpaaGreatDoorGenAll
import Derived.Test.YtcdccjagknlmpaaGreatDoorOk
namespace Go.Proofs.YtcdccjagknlmpaaGreatDoor
open Go.Sim

theorem QwR {p n:Int} (hp:I64 p):Ok (Qag p n) (fun r=>0≤r∧(1≤n→r<n)):=by
 have hp':=hp
 unfold I64 at hp'
 have key:∀q:Int,0≤q→Ok (if decide (n<1)=true then some 0 else (nz n).bind fun _=>some (Int.tmod q n)) (fun r=>0≤r∧(1≤n→r<n)):=fun q hq=>by
  refine Ok.ite (fun h=>?_) (fun h=>?_)
  ·have:n<1:=of_decide_eq_true h
   exact Ok.mk ⟨Int.le_refl _,fun h=>by omega⟩
  ·have:¬n<1:=of_decide_eq_false h
   rw[nz_of (by omega)]
   exact Ok.mk ⟨Int.tmod_nonneg _ hq,fun _=>Int.tmod_lt_of_pos _ (by omega)⟩
 unfold Qag
 refine Ok.bind (P:=fun q=>0≤q) (Ok.ite (fun h=>?_) (fun h=>?_)) (fun q hq=>key q hq)
 ·have:p<0:=of_decide_eq_true h
  refine Ok.mk ?_
  have e1:IntKind.i64.wrap (p+1)=p+1:=w64 (by omega) (by omega)
  rw[e1,w64 (by omega) (by omega)];omega
 ·have:¬p<0:=of_decide_eq_false h
  exact Ok.mk (by omega)
section
variable {β:Type} {Q:β→Prop}
theorem Ok.arnd {p n:Int} {f:Int→Option β} (hp:I64 p) (hn:1≤n) (k:∀r,0≤r→r<n→Ok (f r) Q):Ok ((Qag p n).bind f) Q:=
 (QwR hp).bind fun r h=>k r h.1 (h.2 hn)
theorem at_ok {l:List Int} {i n:Int} (hl:∀x∈l,I64 x) (hn:1≤n):Ok (Qf7 l i n) (fun r=>0≤r∧r<n):=by
 unfold Qf7
 refine Ok.ite (fun h=>Ok.mk ⟨Int.le_refl _,by omega⟩) (fun h=>?_)
 simp only[Bool.or_eq_false_iff,decide_eq_false_iff_not] at h
 refine Ok.idx (by omega) (by omega) fun v hv _=>?_
 exact Ok.arnd (hl v hv) hn fun r h0 h1=>Ok.mk ⟨h0,h1⟩
theorem Ok.at1 {l:List Int} {i n:Int} {f:Int→Option β} (hl:∀x∈l,I64 x) (hn:1≤n) (k:∀r,0≤r→r<n→Ok (f r) Q):Ok ((Qf7 l i n).bind f) Q:=
 (at_ok hl hn).bind fun r h=>k r h.1 h.2
end
theorem Qqm {l:List Int} {n:Int} (hl:∀x∈l,I64 x) (h0:0≤n) (hn:n≤1000):Ok (QgW l n) (fun r=>(r.length:Int)=n∧∀x∈r,0≤x∧x<12):=by
 unfold QgW
 refine Ok.bind (P:=fun r:List Int=>(r.length:Int)=n∧∀x∈r,0≤x∧x<12) (Ok.loop (fun m s=>s.1=s.2.length∧s.1+m=n∧∀x∈s.2,0≤x∧x<12) n.toNat ⟨rfl,by simp;omega,fun x hx=>by cases hx⟩ fun m s hs=>?_) (fun r hr=>Ok.mk hr)
 obtain⟨h1,h2,h3⟩:=hs
 refine Ok.ite (fun h=>?_) (fun h=>?_)
 ·have h:s.1<n:=of_decide_eq_true h
  refine Ok.at1 hl (by decide) fun r r0 r1=>?_
  refine Ok.rm (by simp;omega) (Ok.mk ⟨m - 1,by omega,?_,?_,?_⟩)
  ·rw[w64 (by omega) (by omega)];simp;omega
  ·rw[w64 (by omega) (by omega)];omega
  ·intro x hx
   rcases List.mem_append.1 hx with hx | hx
   ·exact h3 x hx
   ·rw[List.mem_singleton.1 hx];exact⟨r0,r1⟩
 ·have h:¬s.1<n:=of_decide_eq_false h
  exact Ok.mk ⟨by omega,h3⟩

/-- A limit of the model as one of the package. -/
def toC (x:QD):Qh:=⟨x.A,x.B,x.Mul,x.Least⟩
/-! Holds -/

def isN (x:Int):Bool:=decide (0≤x)&&decide (x≤65536)
def numL (c:List Int):Bool:=c.all isN
def nth (c:List Int) (i:Int):Int:=c.getD i.toNat 0
def bndS (l:Qh) (c:List Int):Int:=if l.B<0 then l.Mul else l.Mul * nth c l.B
structure VL (l:Qh) (n:Int):Prop where
 a0:0≤l.A
 a1:l.A<n
 b0:-1≤l.B
 b1:l.B<n
 m0:0≤l.Mul
 m1:l.Mul≤65536
theorem QiC {c:List Int} {i:Int} (h0:0≤i) (h1:i<c.length):idx c i=some (nth c i):=by
 have hlt:i.toNat<c.length:=by omega
 rw[QgX c h0,List.getElem?_eq_getElem hlt]
 unfold nth
 rw[List.getD_eq_getElem?_getD,List.getElem?_eq_getElem hlt]
 rfl
theorem QwS {c:List Int} {i:Int} (h0:0≤i) (h1:i<c.length):nth c i∈c:=by
 have hlt:i.toNat<c.length:=by omega
 unfold nth
 rw[List.getD_eq_getElem?_getD,List.getElem?_eq_getElem hlt]
 exact List.getElem_mem hlt
theorem Qse {c:List Int} {i:Int} (hc:∀x∈c,0≤x∧x≤65536) (h0:0≤i) (h1:i<c.length):0≤nth c i∧nth c i≤65536:=hc _ (QwS h0 h1)
theorem Qsf {a b:Int} (a0:0≤a) (a1:a≤65536) (b0:0≤b) (b1:b≤65536):0≤a * b∧a * b≤4294967296:=
 ⟨Int.mul_nonneg a0 b0,Int.le_trans (Int.mul_le_mul a1 b1 b0 (by decide)) (by decide)⟩
theorem QuZ {l:Qh} {c:List Int} (hv:VL l c.length) (hc:∀x∈c,0≤x∧x≤65536):Qa6 l c=some (bndS l c):=by
 unfold Qa6 bndS
 by_cases hb:l.B<0
 ·rw[if_pos (by simpa using hb),if_pos hb]
 ·have hb0:0≤l.B:=by omega
  rw[if_neg (by simpa using hb),if_neg hb,QiC hb0 hv.b1]
  have hm:=Qsf hv.m0 hv.m1 (Qse hc hb0 hv.b1).1 (Qse hc hb0 hv.b1).2
  show some (IntKind.i64.wrap (l.Mul * nth c l.B))=_
  rw[w64 (by omega) (by omega)]
/-- The index of the first element that is so; -1: none is. -/
def fIx {α:Type} (s:List α) (p:α→Bool):Int:=match s.findIdx? p with | some k=>(k:Int) | none=>-1
theorem QwT {α:Type} (s:List α) (p:α→Bool):decide (fIx s p≥0)=s.any p:=by
 unfold fIx
 cases h:s.findIdx? p with
 | none=>
  rw[List.findIdx?_eq_none_iff] at h
  have:s.any p=false:=by rw[List.any_eq_false];intro x hx;simpa using h x hx
  rw[this];rfl
 | some k=>
  obtain⟨hk,hp,_⟩:=List.findIdx?_eq_some_iff_getElem.1 h
  have:s.any p=true:=List.any_eq_true.2 ⟨_,List.getElem_mem hk,hp⟩
  rw[this]
  exact decide_eq_true (Int.natCast_nonneg k)
theorem QsL {α:Type} (s:List α) (p:α→Bool) {body:Int→Option (Int⊕(Unit⊕Int))}
  (hb:∀k (h:k<s.length),body (k:Int)=if p s[k]=true then some (.inr (.inr (k:Int))) else some (.inl ((k+1:Nat):Int))) (he:body (s.length:Int)=some (.inr (.inl ()))):
  QG body (0:Int)=some (match s.findIdx? p with | some k=>.inr (k:Int) | none=>.inl ()):=by
 obtain⟨q,hq⟩:∃q:Nat→Bool,∀k (h:k<s.length),q k=p s[k]:=⟨fun k=>if h:k<s.length then p s[k] else false,fun k h=>dif_pos h⟩
 rcases QkU (ρ:=Unit⊕Int) s.length q (.inl ()) (fun k=>.inr (k:Int))
  (fun k hk hp=>by rw[hb k hk,if_neg (by rw[←hq k hk,hp];decide)]) (fun k hk hp=>by rw[hb k hk,if_pos (by rw[←hq k hk,hp])]) he with⟨k,hk,hp,hj,e⟩ | ⟨hp,e⟩
 ·have:s.findIdx? p=some k:=by
   rw[List.findIdx?_eq_some_iff_getElem]
   refine⟨hk,by rw[←hq k hk,hp],fun j hj'=>?_⟩
   have:=hj j hj'
   rw[hq j (by omega)] at this
   simp[this]
  rw[e,this]
 ·have:s.findIdx? p=none:=by
   rw[List.findIdx?_eq_none_iff]
   intro x hx
   obtain⟨k,hk,rfl⟩:=List.getElem_of_mem hx
   have:=hp k hk
   rwa [hq k hk] at this
  rw[e,this]
theorem anyInt {s:List Int} {f:Int→Option Bool} {p:Int→Bool} (hs:s.length≤1000000) (hf:∀x∈s,f x=some (p x)):Qa1 s f=some (s.any p):=by
 unfold Qa1 Qb8
 rw[QsL s p (fun k hk=>?_) ?_]
 ·rw[←QwT];unfold fIx;cases s.findIdx? p<;>rfl
 ·rw[if_neg (by simp)]
 ·rw[if_pos (by simpa using hk),Qaa hk]
  show (f s[k]).bind _=_
  rw[hf _ (List.getElem_mem hk),Q1 hk (by omega)];rfl
theorem QsM {c:List Int} (hc:c.length≤1000000):QfX c=some (numL c):=by
 unfold QfX
 rw[Qeg c isN false (fun k hk=>?_) (by rw[if_neg (by simp)])]
 ·unfold numL;cases c.all isN<;>rfl
 ·rw[if_pos (by simpa using hk),Qaa hk]
  simp only[Option.bind_some,Q1 hk (show c.length≤9223372036854775807 by omega)]
  by_cases hx:c[k]<0
  ·have:isN c[k]=false:=by simp[isN];omega
   simp[hx,this,opt]
  ·have e:decide (c[k]<0)=false:=by simpa using hx
   rw[e,show (false==false)=true from rfl,Qhq]
   simp only[Option.bind_some,Bool.false_or]
   by_cases h2:c[k]>65536
   ·have:isN c[k]=false:=by simp[isN];omega
    rw[if_pos (by simpa using h2),this];rfl
   ·have:isN c[k]=true:=by simp[isN];omega
    rw[if_neg (by simpa using h2),this];rfl
end Go.Proofs.YtcdccjagknlmpaaGreatDoor

namespace Go.Proofs.YtcdccjagknlmpaaGreatDoor
open Go.Sim

def padV (p:List Int):Qs:=⟨nth p 0,nth p 1,nth p 2,nth p 3,nth p 4,nth p 5⟩
theorem Qsg {p:List Int} {v:Int} {j:Int} (h0:0≤j):nth (p++[v]) j=if j=(p.length:Int) then v else nth p j:=by
 obtain⟨k,rfl⟩:=Int.eq_ofNat_of_zero_le h0
 unfold nth
 simp only[Int.toNat_natCast,List.getD_eq_getElem?_getD]
 by_cases h:k<p.length
 ·rw[List.getElem?_append_left h,if_neg (by omega)]
 ·by_cases h2:k=p.length
  ·subst h2;rw[if_pos rfl];simp
  ·rw[if_neg (by omega),List.getElem?_eq_none (by simp;omega),List.getElem?_eq_none (by omega)]
theorem QwU {p:List Int} {j:Int} (h:(p.length:Int)≤j):nth p j=0:=by
 unfold nth
 rw[List.getD_eq_getElem?_getD,List.getElem?_eq_none (by omega)];rfl
theorem Qp0 {p:List Int} {i:Int} (h0:0≤i) (h1:i<6):nth (padV p).L i=nth p i:=by
 obtain⟨k,rfl⟩:=Int.eq_ofNat_of_zero_le h0
 match k,(show k<6 by omega) with
 | 0,_=>rfl
 | 1,_=>rfl
 | 2,_=>rfl
 | 3,_=>rfl
 | 4,_=>rfl
 | 5,_=>rfl
theorem QlT {p:List Int} {v:Int} (h:p.length<6):(padV p).setI (p.length:Int) v=padV (p++[v]):=by
 have e:∀j:Nat,nth (p++[v]) (j:Int)=if j=p.length then v else nth p (j:Int):=fun j=>by
  rw[Qsg (Int.natCast_nonneg j)]
  by_cases hj:j=p.length
  ·rw[if_pos hj,if_pos (by omega)]
  ·rw[if_neg hj,if_neg (by omega)]
 have e0:=e 0;have e1:=e 1;have e2:=e 2;have e3:=e 3;have e4:=e 4;have e5:=e 5
 unfold padV Qs.setI
 match hk:p.length,h with
 | 0,_=>rw[hk] at e0 e1 e2 e3 e4 e5;simp at e0 e1 e2 e3 e4 e5;simp[e0,e1,e2,e3,e4,e5]
 | 1,_=>rw[hk] at e0 e1 e2 e3 e4 e5;simp at e0 e1 e2 e3 e4 e5;simp[e0,e1,e2,e3,e4,e5]
 | 2,_=>rw[hk] at e0 e1 e2 e3 e4 e5;simp at e0 e1 e2 e3 e4 e5;simp[e0,e1,e2,e3,e4,e5]
 | 3,_=>rw[hk] at e0 e1 e2 e3 e4 e5;simp at e0 e1 e2 e3 e4 e5;simp[e0,e1,e2,e3,e4,e5]
 | 4,_=>rw[hk] at e0 e1 e2 e3 e4 e5;simp at e0 e1 e2 e3 e4 e5;simp[e0,e1,e2,e3,e4,e5]
 | 5,_=>rw[hk] at e0 e1 e2 e3 e4 e5;simp at e0 e1 e2 e3 e4 e5;simp[e0,e1,e2,e3,e4,e5]
theorem Qou (p:List Int):padV (p++[0])=padV p:=by
 have e:∀j:Int,0≤j→nth (p++[0]) j=nth p j:=fun j hj=>by
  rw[Qsg hj]
  split
  ·rename_i hh;rw[hh,QwU (Int.le_refl _)]
  ·rfl
 unfold padV
 rw[e 0 (by decide),e 1 (by decide),e 2 (by decide),e 3 (by decide),e 4 (by decide),e 5 (by decide)]
theorem Qu0 {p:List Int} {v:Int} (h:p.length<6):(padV (p++[v])).setI (p.length:Int) 0=padV p:=by
 have h0:=Qou p
 rw[←h0,←QlT h,←QlT h]
 unfold Qs.setI
 match p.length,h with
 | 0,_=>rfl
 | 1,_=>rfl
 | 2,_=>rfl
 | 3,_=>rfl
 | 4,_=>rfl
 | 5,_=>rfl

/-- The least and the greatest number of the next kind. -/
def Qca (L:List Qh) (p:List Int):Int×Int:=
 L.foldl (fun r l=>if (l.A !=(p.length:Int)||decide (l.B≥(p.length:Int)))=true then r else if l.Least=true then (imax r.1 (bndS l p),r.2) else (r.1,imin r.2 (bndS l p))) (0,65536)
def farS (a b:Int):Int:=imax (a - b) (b - a)
/-- The distance of some first numbers. -/
def dst (W p:List Int):Int:=(List.zipWith farS p W).sum
def seqI (lo hi:Int):List Int:=(List.range (hi - lo+1).toNat).map fun i:Nat=>lo+(i:Int)
/-- All numbers that are tried, behind some first ones. -/
def QaW (L:List Qh) (W:List Int) (D:List Bool):Nat→List Int→List (List Int)
 | 0,p=>[p]
 | m+1,p=>if (Qca L p).2<(Qca L p).1 then [] else if D.getD p.length false=true then (seqI (Qca L p).1 (Qca L p).2).flatMap fun v=>QaW L W D m (p++[v]) else QaW L W D m (p++[imin (imax (nth W (p.length:Int)) (Qca L p).1) (Qca L p).2])
def cmpL:List Int→List Int→Int
 | x::a,y::b=>if x<y then -1 else if y<x then 1 else cmpL a b
 | _,_=>0
theorem Qfv (x y:Int) (a b:List Int):cmpL (x::a) (y::b)=if x<y then -1 else if y<x then 1 else cmpL a b:=by rw[cmpL]
/-- The better one. -/
def upd (W:List Int) (b:Qs×Int) (x:List Int):Qs×Int:=
 if b.2<0∨dst W x<b.2∨(dst W x=b.2∧cmpL (padV x).L b.1.L<0) then (padV x,dst W x) else b

theorem far_is (a b:Int) (ha:0≤a∧a≤65536) (hb:0≤b∧b≤65536):Qde a b=some (farS a b):=by
 unfold Qde farS
 rw[w64 (by omega) (by omega),w64 (by omega) (by omega)]
theorem QnP (a b:Int):0≤farS a b:=by unfold farS imax;split<;>omega
theorem Qp1 {a b:Int} (ha:0≤a∧a≤65536) (hb:0≤b∧b≤65536):farS a b≤65536:=by unfold farS imax;split<;>omega
theorem Qmw:∀(W p:List Int) (v:Int),p.length<W.length→dst W (p++[v])=dst W p+farS v (nth W (p.length:Int))
 | [],p,v,h=>by simp at h
 | w::W,[],v,_=>by simp[dst,nth]
 | w::W,x::p,v,h=>by
  have ih:=Qmw W p v (by simpa using h)
  unfold dst at *
  simp only[List.cons_append,List.zipWith_cons_cons,List.sum_cons,ih]
  have:nth (w::W) ((x::p).length:Int)=nth W (p.length:Int):=by simp[nth]
  rw[this];omega
theorem Qnt (W p:List Int):0≤dst W p:=by
 unfold dst
 have:∀(p W:List Int),0≤(List.zipWith farS p W).sum:=by
  intro p
  induction p with
  | nil=>intro W;simp
  | cons x p ih=>
   intro W
   cases W with
   | nil=>simp
   | cons w W=>simp only[List.zipWith_cons_cons,List.sum_cons];have:=ih W;have:=QnP x w;omega
 exact this p W
theorem QtL {W p:List Int} (hp:∀z∈p,0≤z∧z≤65536) (hW:∀z∈W,0≤z∧z≤65536):dst W p≤p.length * 65536:=by
 unfold dst
 induction p generalizing W with
 | nil=>simp
 | cons x p ih=>
  cases W with
  | nil=>simp;omega
  | cons w W=>
   have h1:=ih (fun z hz=>hp z (List.mem_cons_of_mem _ hz)) (fun z hz=>hW z (List.mem_cons_of_mem _ hz))
   have h2:=Qp1 (hp x (List.mem_cons_self ..)) (hW w (List.mem_cons_self ..))
   simp only[List.zipWith_cons_cons,List.sum_cons,List.length_cons]
   omega
/-- What lies behind some first numbers is not nearer. -/
theorem Qpl {L:List Qh} {W:List Int} {D:List Bool}:∀(m:Nat) (p:List Int),p.length+m=W.length→∀x∈QaW L W D m p,dst W p≤dst W x
 | 0,p,_,x,hx=>by rw[List.mem_singleton.1 hx];exact Int.le_refl _
 | m+1,p,h,x,hx=>by
  have step:∀v,x∈QaW L W D m (p++[v])→dst W p≤dst W x:=fun v hv=>by
   have h1:=Qpl m (p++[v]) (by simp;omega) x hv
   rw[Qmw W p v (by omega)] at h1
   have:=QnP v (nth W (p.length:Int))
   omega
  unfold QaW at hx
  split at hx
  ·cases hx
  ·split at hx
   ·obtain⟨v,_,hv⟩:=List.mem_flatMap.1 hx
    exact step v hv
   ·exact step _ hx
theorem QwV {W:List Int} {b:Qs×Int} {l:List (List Int)} (hb:0≤b.2) (h:∀x∈l,b.2<dst W x):l.foldl (upd W) b=b:=by
 induction l with
 | nil=>rfl
 | cons x l ih=>
  have hx:=h x (List.mem_cons_self ..)
  have e:upd W b x=b:=by unfold upd;rw[if_neg];rintro (h | h | ⟨h,_⟩)<;>omega
  rw[List.foldl_cons,e]
  exact ih fun y hy=>h y (List.mem_cons_of_mem _ hy)

theorem QsN:∀(a b:List Int),a.length=b.length→a.length≤1000000→Qbz a b=some (cmpL a b):=by
 intro a b hl hn
 have key:Ok (Qbz a b) (fun r=>r=cmpL a b):=by
  unfold Qbz
  refine Ok.bind (P:=fun e:Unit⊕Int=>(match e with | .inl _=>(0:Int) | .inr r=>r)=cmpL a b) (Ok.loop (fun m s=>0≤s∧s+m=a.length∧cmpL (a.drop s.toNat) (b.drop s.toNat)=cmpL a b) a.length ⟨Int.le_refl _,by omega,by simp⟩ fun m s hs=>?_) (fun e he=>?_)
  ·obtain⟨h1,h2,h3⟩:=hs
   obtain⟨k,rfl⟩:=Int.eq_ofNat_of_zero_le h1
   rw[Int.toNat_natCast] at h3
   refine Ok.ite (fun hc=>?_) (fun hc=>?_)
   ·have hk:k<a.length:=by simpa using hc
    have hk2:k<b.length:=by omega
    rw[Qaa hk]
    simp only[Option.bind_some]
    rw[if_neg (by simp;omega),Qaa hk2]
    rw[List.drop_eq_getElem_cons hk,List.drop_eq_getElem_cons hk2] at h3
    simp only[Option.bind_some]
    unfold QdJ QdI
    simp only[Option.bind_some,bne_self_eq_false]
    rw[Qfv] at h3
    by_cases e1:a[k]<b[k]
    ·rw[if_pos e1] at h3
     simp only[Bool.false_eq_true,if_false,e1,decide_true,if_true,Option.bind_some]
     exact Ok.mk h3
    ·rw[if_neg e1] at h3
     by_cases e2:b[k]<a[k]
     ·rw[if_pos e2] at h3
      simp only[Bool.false_eq_true,if_false,e1,decide_false,gt_iff_lt,e2,decide_true,if_true,Option.bind_some]
      exact Ok.mk h3
     ·rw[if_neg e2] at h3
      simp only[Bool.false_eq_true,if_false,e1,decide_false,gt_iff_lt,e2,Option.bind_some,bne_self_eq_false]
      rw[Q1 hk (by omega)]
      exact Ok.mk ⟨m - 1,by omega,by omega,by omega,by rw[Int.toNat_natCast];exact h3⟩
   ·have hk:¬k<a.length:=by simpa using hc
    rw[List.drop_eq_nil_of_le (by omega),List.drop_eq_nil_of_le (by omega)] at h3
    exact Ok.mk h3
  ·cases e with
   | inl u=>
    show Ok (if _ then _ else _) _
    rw[if_neg (by simp;omega)]
    exact Ok.mk he
   | inr r=>exact Ok.mk he
 obtain⟨r,hr,rfl⟩:=key
 exact hr

end Go.Proofs.YtcdccjagknlmpaaGreatDoor

namespace Go.Proofs.YtcdccjagknlmpaaGreatDoor
open Go.Sim

/-- What is known of a search: the limits are valid, the wanted numbers are numbers. -/
structure SrOk (L:List Qh) (W:List Int) (D:List Bool):Prop where
 few:L.length≤1000000
 lim:∀y∈L,VL y 6
 want:∀z∈W,0≤z∧z≤65536
 six:W.length≤6
 leads:D.length=W.length
def NumP (p:List Int):Prop:=∀z∈p,0≤z∧z≤65536
theorem Qmx {p:List Int} (h:NumP p) (j:Int):0≤nth p j∧nth p j≤65536:=by
 unfold nth
 rw[List.getD_eq_getElem?_getD]
 cases hj:p[j.toNat]? with
 | none=>simp
 | some x=>exact h x (List.mem_of_getElem? hj)
theorem QwW {y:Qh} {p:List Int} (hy:VL y 6):bndS y (padV p).L=bndS y p:=by
 unfold bndS
 by_cases hb:y.B<0
 ·rw[if_pos hb,if_pos hb]
 ·rw[if_neg hb,if_neg hb,Qp0 (by omega) hy.b1]
theorem QwX {p:List Int} (h:NumP p):∀z∈(padV p).L,0≤z∧z≤65536:=by
 intro z hz
 simp only[padV,Qs.L,List.mem_cons,List.not_mem_nil,or_false] at hz
 rcases hz with rfl | rfl | rfl | rfl | rfl | rfl<;>exact Qmx h _
theorem QwY {L:List Qh} {W:List Int} {D:List Bool} (h:SrOk L W D) {p:List Int} (hp:NumP p) (hl:p.length≤6) (best:Qs) (cost:Int):
  QbA ⟨L,W,D,padV p,best,cost⟩ (p.length:Int)=some (Qca L p):=by
 let st:Nat→Int×Int:=fun k=>(L.take k).foldl (fun r l=>if (l.A !=(p.length:Int)||decide (l.B≥(p.length:Int)))=true then r else if l.Least=true then (imax r.1 (bndS l p),r.2) else (r.1,imin r.2 (bndS l p))) (0,65536)
 unfold QbA
 refine Qef L.length (fun k=>((k:Int),(st k).1,(st k).2)) ((st L.length).1,(st L.length).2) rfl (fun k hk=>?_) ?_ ?_
 ·dsimp only
  have hy:=h.lim _ (List.getElem_mem hk)
  have es:st (k+1)=if (L[k].A !=(p.length:Int)||decide (L[k].B≥(p.length:Int)))=true then st k else if L[k].Least=true then (imax (st k).1 (bndS L[k] p),(st k).2) else ((st k).1,imin (st k).2 (bndS L[k] p)):=by
   show (L.take (k+1)).foldl _ _=_
   rw[List.take_succ_eq_append_getElem hk,List.foldl_append]
   rfl
  rw[if_pos (by simpa using hk),Qaa hk]
  have hb:Qa6 L[k] (padV p).L=some (bndS L[k] p):=by
   rw[QuZ (hy) (QwX hp),QwW hy]
  simp only[Option.bind_some,hb,es,Q1 hk (show L.length≤9223372036854775807 by have:=h.few;omega)]
  cases (L[k].A !=(p.length:Int)||decide (L[k].B≥(p.length:Int))) with
  | true=>rfl
  | false=>
   simp only[Bool.false_eq_true,if_false]
   cases L[k].Least<;>rfl
 ·dsimp only
  rw[if_neg (by simp)]
 ·show some ((st L.length).1,(st L.length).2)=_
  have:st L.length=Qca L p:=by show (L.take L.length).foldl _ _=_;rw[List.take_length];rfl
  rw[this]
/-- The numbers that are tried are numbers. -/
theorem Qov {L:List Qh} {W:List Int} {D:List Bool} (h:SrOk L W D) {p:List Int} (hp:NumP p):0≤(Qca L p).1∧(Qca L p).2≤65536:=by
 unfold Qca
 have key:∀(L':List Qh) (r:Int×Int),(∀y∈L',VL y 6)→0≤r.1∧r.2≤65536→
   0≤(L'.foldl (fun r l=>if (l.A !=(p.length:Int)||decide (l.B≥(p.length:Int)))=true then r else if l.Least=true then (imax r.1 (bndS l p),r.2) else (r.1,imin r.2 (bndS l p))) r).1∧
   (L'.foldl (fun r l=>if (l.A !=(p.length:Int)||decide (l.B≥(p.length:Int)))=true then r else if l.Least=true then (imax r.1 (bndS l p),r.2) else (r.1,imin r.2 (bndS l p))) r).2≤65536:=by
  intro L'
  induction L' with
  | nil=>intro r _ hr;exact hr
  | cons y L' ih=>
   intro r hL hr
   rw[List.foldl_cons]
   refine ih _ (fun z hz=>hL z (List.mem_cons_of_mem _ hz)) ?_
   split
   ·exact hr
   ·split
    ·exact⟨by unfold imax;split<;>omega,hr.2⟩
    ·exact⟨hr.1,by unfold imin;split<;>omega⟩
 exact key L (0,65536) h.lim ⟨Int.le_refl _,Int.le_refl _⟩

theorem Qrr {lo hi:Int} (h:hi<lo):seqI lo hi=[]:=by
 unfold seqI
 rw[show (hi - lo+1).toNat=0 by omega];rfl
theorem QtM {lo hi:Int} (h:lo≤hi):seqI lo hi=lo::seqI (lo+1) hi:=by
 unfold seqI
 rw[show (hi - lo+1).toNat=(hi - (lo+1)+1).toNat+1 by omega,List.range_succ_eq_map,List.map_cons,List.map_map]
 congr 1
 ·simp
 ·refine List.map_congr_left fun i _=>?_
  show lo+((i+1:Nat):Int)=lo+1+(i:Int)
  omega
/-- A loop over numbers that changes a state. -/
theorem Qqn {S:Type} {hi:Int} {Y:S→Int→Option S} (F:S→Int→S) (I:S→Prop) (hhi:hi≤65536):∀(c:Nat) (lo:Int) (s:S),(hi - lo+1).toNat=c→0≤lo→lo≤65537→I s→
  (∀s v,I s→lo≤v→v≤hi→Y s v=some (F s v)∧I (F s v))→
  QG (fun (s5:Int×S)=>((opt (decide (s5.1≤hi)) (Y s5.2 s5.1) s5.2).bind fun t38=>(if (decide (s5.1≤hi))=true then (some (.inl (IntKind.i64.wrap (s5.1+(1:Int)),t38))) else (some (.inr t38))))) (lo,s)=some ((seqI lo hi).foldl F s)
 | 0,lo,s,hc,h0,h1,hI,hY=>by
  rw[Qco]
  have e:decide (lo≤hi)=false:=by simp;omega
  dsimp only
  rw[e,QtK,Qrr (by omega)]
  rfl
 | c+1,lo,s,hc,h0,h1,hI,hY=>by
  rw[Qco]
  have hle:lo≤hi:=by omega
  have e:decide (lo≤hi)=true:=by simp;omega
  obtain⟨y1,y2⟩:=hY s lo hI (Int.le_refl _) hle
  dsimp only
  rw[e,Qhq,y1]
  simp only[Option.bind_some,if_true]
  rw[w64 (by omega) (by omega),Qqn F I hhi c (lo+1) (F s lo) (by omega) (by omega) (by omega) y2 (fun s v hs h2 h3=>hY s v hs (by omega) h3),QtM hle]
  rfl

theorem QwZ {a:Qs} {k:Nat} {u v:Int} (h:k<6):(a.setI (k:Int) v).setI (k:Int) u=a.setI (k:Int) u:=by
 unfold Qs.setI
 match k,h with
 | 0,_=>rfl
 | 1,_=>rfl
 | 2,_=>rfl
 | 3,_=>rfl
 | 4,_=>rfl
 | 5,_=>rfl
theorem getD_lt' {α:Type} {l:List α} {z:α} {i:Nat} (h:i<l.length):l.getD i z=l[i]:=by simp[List.getD_eq_getElem?_getD,h]
theorem QtN {L:List Qh} {W:List Int} {D:List Bool} (h:SrOk L W D):∀(m N:Nat) (p:List Int) (b:Qs×Int),m<N→p.length+m=W.length→NumP p→
  Qbl N ⟨L,W,D,padV p,b.1,b.2⟩ (p.length:Int) (dst W p)=some ⟨L,W,D,padV p,((QaW L W D m p).foldl (upd W) b).1,((QaW L W D m p).foldl (upd W) b).2⟩
 | m,0,p,b,hm,_,_=>absurd hm (Nat.not_lt_zero _)
 | m,N+1,p,b,hm,hl,hp=>by
  show Qb3 (Qbl N) ⟨L,W,D,padV p,b.1,b.2⟩ (p.length:Int) (dst W p)=_
  have h6:=h.six
  have d0:=Qnt W p
  have d1:=QtL hp h.want
  unfold Qb3
  by_cases hpr:0≤b.2∧b.2<dst W p
  ·rw[if_pos (by simpa using hpr),QwV hpr.1 fun x hx=>Int.lt_of_lt_of_le hpr.2 (Qpl m p hl x hx)]
  ·rw[if_neg (by simpa using hpr)]
   cases m with
   | zero=>
    have hlen:p.length=W.length:=by omega
    rw[if_pos (by simp[hlen])]
    show _=some (⟨L,W,D,padV p,(upd W b p).1,(upd W b p).2⟩:Qx)
    have hc:=QsN (padV p).L b.1.L rfl (by simp[Qs.L])
    by_cases h1:b.2<0∨dst W p<b.2
    ·have e1:(decide (b.2<0)||decide (dst W p<b.2))=true:=by simpa using h1
     have e2:upd W b p=(padV p,dst W p):=if_pos (by rcases h1 with h1 | h1<;>simp[h1])
     rw[e1,e2]
     rfl
    ·have e1:(decide (b.2<0)||decide (dst W p<b.2))=false:=by simp;omega
     have heq:dst W p=b.2:=by omega
     rw[e1]
     simp only[Bool.false_or,show (false==false)=true from rfl,Bool.true_and]
     by_cases hne:QbB (padV p) b.1=true
     ·have hsame:padV p=b.1:=by
       simp only[QbB,Bool.and_eq_true,beq_iff_eq] at hne
       obtain⟨⟨⟨⟨⟨q0,q1⟩,q2⟩,q3⟩,q4⟩,q5⟩:=hne
       cases hb:b.1
       rw[hb] at q0 q1 q2 q3 q4 q5
       simp only[padV] at *
       simp[q0,q1,q2,q3,q4,q5]
      have hu:upd W b p=b:=by
       unfold upd
       split
       ·exact Prod.ext hsame heq
       ·rfl
      rw[hne,hu]
      rfl
     ·have hne':QbB (padV p) b.1=false:=by simpa using hne
      rw[hne']
      simp only[Bool.not_false,show (true==true)=true from rfl,Qhq,hc,Option.bind_some,Bool.true_and]
      by_cases hl0:cmpL (padV p).L b.1.L<0
      ·have hu:upd W b p=(padV p,dst W p):=if_pos (.inr (.inr ⟨heq,hl0⟩))
       rw[if_pos (by simpa using hl0),hu]
       rfl
      ·have hu:upd W b p=b:=if_neg (by rintro (g | g | ⟨_,g⟩)<;>omega)
       rw[if_neg (by simpa using hl0),hu]
       rfl
   | succ m=>
    have hlt:p.length<W.length:=by omega
    have hp6:p.length<6:=by omega
    rw[if_neg (by simp;omega),QwY h hp (by omega)]
    simp only[Option.bind_some]
    obtain⟨r0,r1⟩:=Qov h hp
    have hW:=Qmx (p:=W) h.want (p.length:Int)
    have hset:∀v,(padV p).setI (p.length:Int) v=padV (p++[v]):=fun v=>QlT hp6
    have pset:∀v u,(padV (p++[v])).setI (p.length:Int) u=padV (p++[u]):=fun v u=>by
     rw[←QlT hp6,←QlT hp6]
     exact QwZ hp6
    -- one round
    have round0:∀(b:Qs×Int) (now:Qs) (v:Int),0≤v→v≤65536→(∀u,now.setI (p.length:Int) u=padV (p++[u]))→
      (((idx (now).L (p.length:Int)).bind fun t83=>(Qde v (nth W (p.length:Int))).bind fun t96=>(Qbl N (Qx.mk L W D ((now).setI (p.length:Int) v) b.1 b.2) (IntKind.i64.wrap ((p.length:Int)+(1:Int))) (IntKind.i64.wrap (dst W p+t96))).bind fun t98=>(some t98)))=
      some ⟨L,W,D,padV (p++[v]),((QaW L W D m (p++[v])).foldl (upd W) b).1,((QaW L W D m (p++[v])).foldl (upd W) b).2⟩:=by
     intro b now v v0 v1 hnow
     have hnp:NumP (p++[v]):=fun z hz=>by
      rcases List.mem_append.1 hz with hz | hz
      ·exact hp z hz
      ·rw[List.mem_singleton.1 hz];exact⟨v0,v1⟩
     have hf:=Qp1 (a:=v) (b:=nth W (p.length:Int)) ⟨v0,v1⟩ hW
     have hf0:=QnP v (nth W (p.length:Int))
     rw[QiC (by omega) (by simp[Qs.L];omega)]
     simp only[Option.bind_some]
     rw[far_is _ _ ⟨v0,v1⟩ hW]
     simp only[Option.bind_some]
     have hb6:(p.length:Int) * 65536≤393216:=by omega
     rw[hnow,w64 (by omega) (by omega),w64 (by omega) (by omega),←Qmw W p v hlt]
     have ih:=QtN h m N (p++[v]) b (by omega) (by simp;omega) hnp
     rw[show (((p++[v]).length:Nat):Int)=(p.length:Int)+1 by simp] at ih
     rw[ih]
     rfl
    have round:∀(b:Qs×Int) (now:Qs) (v:Int),0≤v→v≤65536→(∀u,now.setI (p.length:Int) u=padV (p++[u]))→
      (((idx (now).L (p.length:Int)).bind fun t83=>(idx W (p.length:Int)).bind fun t94=>(Qde v t94).bind fun t96=>(Qbl N (Qx.mk L W D ((now).setI (p.length:Int) v) b.1 b.2) (IntKind.i64.wrap ((p.length:Int)+(1:Int))) (IntKind.i64.wrap (dst W p+t96))).bind fun t98=>(some t98)))=
      some ⟨L,W,D,padV (p++[v]),((QaW L W D m (p++[v])).foldl (upd W) b).1,((QaW L W D m (p++[v])).foldl (upd W) b).2⟩:=by
     intro b now v v0 v1 hnow
     rw[QiC (c:=W) (by omega) (by omega)]
     exact round0 b now v v0 v1 hnow
    have hleaf:QaW L W D (m+1) p=if (Qca L p).2<(Qca L p).1 then [] else if D.getD p.length false=true then (seqI (Qca L p).1 (Qca L p).2).flatMap fun v=>QaW L W D m (p++[v]) else QaW L W D m (p++[imin (imax (nth W (p.length:Int)) (Qca L p).1) (Qca L p).2]):=rfl
    unfold QbS
    by_cases hgt:(Qca L p).2<(Qca L p).1
    ·rw[if_pos (by simpa using hgt),hleaf,if_pos hgt]
     simp only[Option.bind_some]
     rw[QiC (by omega) (by simp[Qs.L];omega)]
     simp only[Option.bind_some]
     rw[hset,Qou]
     rfl
    ·rw[if_neg (by simpa using hgt),hleaf,if_neg hgt]
     have hD:idx D (p.length:Int)=some (D.getD p.length false):=by
      have:p.length<D.length:=by have:=h.leads;omega
      rw[Qaa this,getD_lt' this]
     rw[hD]
     simp only[Option.bind_some]
     cases hd:D.getD p.length false with
     | false=>
      rw[if_pos (by decide),if_neg (by decide),QiC (by omega) (by omega)]
      simp only[Option.bind_some]
      have hv:0≤imin (imax (nth W (p.length:Int)) (Qca L p).1) (Qca L p).2∧imin (imax (nth W (p.length:Int)) (Qca L p).1) (Qca L p).2≤65536:=by
       constructor<;>(unfold imin imax;split<;>first | omega | (split<;>omega))
      rw[round0 b (padV p) _ hv.1 hv.2 hset]
      simp only[Option.bind_some]
      rw[QiC (by omega) (by simp[Qs.L];omega)]
      simp only[Option.bind_some]
      rw[Qu0 hp6]
     | true=>
      rw[if_neg (by decide),if_pos rfl]
      let F:Qx→Int→Qx:=fun s v=>⟨L,W,D,padV (p++[v]),((QaW L W D m (p++[v])).foldl (upd W) (s.best,s.cost)).1,((QaW L W D m (p++[v])).foldl (upd W) (s.best,s.cost)).2⟩
      have hfold:∀(l:List Int) (b:Qs×Int) (now:Qs),(∀u,now.setI (p.length:Int) u=padV (p++[u]))→∃now',l.foldl F ⟨L,W,D,now,b.1,b.2⟩=⟨L,W,D,now',((l.flatMap fun v=>QaW L W D m (p++[v])).foldl (upd W) b).1,((l.flatMap fun v=>QaW L W D m (p++[v])).foldl (upd W) b).2⟩∧∀u,now'.setI (p.length:Int) u=padV (p++[u]):=by
       intro l
       induction l with
       | nil=>intro b now hn;exact⟨now,rfl,hn⟩
       | cons v l ih=>
        intro b now hn
        rw[List.foldl_cons,List.flatMap_cons,List.foldl_append]
        exact ih _ _ (pset v)
      rw[Qqn (S:=Qx) (Y:=fun s v=>(idx (s).now.L (p.length:Int)).bind fun t83=>(idx s.want (p.length:Int)).bind fun t94=>(Qde v t94).bind fun t96=>(Qbl N (Qx.mk s.limits s.want s.leads ((s).now.setI (p.length:Int) v) s.best s.cost) (IntKind.i64.wrap ((p.length:Int)+(1:Int))) (IntKind.i64.wrap (dst W p+t96))).bind fun t98=>(some t98)) F (fun s=>∃(b:Qs×Int) (now:Qs),s=⟨L,W,D,now,b.1,b.2⟩∧∀u,now.setI (p.length:Int) u=padV (p++[u])) r1 _ _ _ rfl r0 (by omega) ⟨b,padV p,rfl,hset⟩ (fun s v hs hv0 hv1=>?_)]
      ·obtain⟨now',e1,e2⟩:=hfold (seqI (Qca L p).1 (Qca L p).2) b (padV p) hset
       rw[e1]
       simp only[Option.bind_some]
       rw[QiC (by omega) (by simp[Qs.L];omega)]
       simp only[Option.bind_some]
       rw[e2,Qou]
      ·obtain⟨b',now,rfl,hn⟩:=hs
       exact⟨round b' now v (by omega) (by omega) hn,⟨_,_,rfl,pset v⟩⟩

end Go.Proofs.YtcdccjagknlmpaaGreatDoor

namespace Go.Proofs.YtcdccjagknlmpaaGreatDoor
open Go.Sim

theorem Qrs {lo hi v:Int}:v∈seqI lo hi↔lo≤v∧v≤hi:=by
 unfold seqI
 simp only[List.mem_map,List.mem_range]
 constructor
 ·rintro ⟨i,h,rfl⟩;omega
 ·intro h;exact⟨(v - lo).toNat,by omega,by omega⟩
end Go.Proofs.YtcdccjagknlmpaaGreatDoor

namespace Go.Proofs.YtcdccjagknlmpaaGreatDoor
open Go.Sim

/-- The best of some lists of numbers. -/
theorem Qp2 {W:List Int}:∀(l:List (List Int)) (b:Qs×Int),0≤b.2→
  0≤(l.foldl (upd W) b).2∧(l.foldl (upd W) b).2≤b.2∧(∀x∈l,(l.foldl (upd W) b).2≤dst W x)∧(l.foldl (upd W) b=b∨∃x∈l,l.foldl (upd W) b=(padV x,dst W x))
 | [],b,h=>⟨h,Int.le_refl _,by simp,.inl rfl⟩
 | x::l,b,h=>by
  rw[List.foldl_cons]
  have hx:=Qnt W x
  by_cases hc:b.2<0∨dst W x<b.2∨(dst W x=b.2∧cmpL (padV x).L b.1.L<0)
  ·have e:upd W b x=(padV x,dst W x):=if_pos hc
   rw[e]
   obtain⟨h1,h2,h3,h4⟩:=Qp2 (W:=W) l (padV x,dst W x) hx
   dsimp only at h2
   refine⟨h1,by omega,fun z hz=>?_,.inr ?_⟩
   ·rcases List.mem_cons.1 hz with rfl | hz
    ·exact h2
    ·exact h3 z hz
   ·rcases h4 with h4 | ⟨z,hz,h4⟩
    ·exact⟨x,List.mem_cons_self ..,h4⟩
    ·exact⟨z,List.mem_cons_of_mem _ hz,h4⟩
  ·have e:upd W b x=b:=if_neg hc
   rw[e]
   obtain⟨h1,h2,h3,h4⟩:=Qp2 (W:=W) l b h
   refine⟨h1,h2,fun z hz=>?_,?_⟩
   ·rcases List.mem_cons.1 hz with rfl | hz
    ·omega
    ·exact h3 z hz
   ·rcases h4 with h4 | ⟨z,hz,h4⟩
    ·exact .inl h4
    ·exact .inr ⟨z,List.mem_cons_of_mem _ hz,h4⟩
/-- What the search finds. -/
def Qg9 (L:List Qh) (W:List Int) (D:List Bool):Qs×Int:=(QaW L W D W.length []).foldl (upd W) (padV [],-1)
theorem Qnu {L:List Qh} {W:List Int} {D:List Bool}:(Qg9 L W D).2<0↔QaW L W D W.length []=[]:=by
 unfold Qg9
 cases QaW L W D W.length [] with
 | nil=>simp
 | cons x l=>
  rw[List.foldl_cons]
  have e:upd W (padV [],-1) x=(padV x,dst W x):=if_pos (.inl (by decide))
  rw[e]
  have:=(Qp2 (W:=W) l (padV x,dst W x) (Qnt W x)).1
  simp only[List.cons_ne_nil,iff_false]
  omega
/-- Which kinds lead. -/
def Qhr (L:List Qh) (n:Nat):List Bool:=L.foldl (fun d y=>if y.B≥0 then d.set y.B.toNat true else d) (List.replicate n false)
theorem Qld:∀(L:List Qh) (d:List Bool),(L.foldl (fun d y=>if y.B≥0 then d.set y.B.toNat true else d) d).length=d.length
 | [],d=>rfl
 | y::L,d=>by
  rw[List.foldl_cons,Qld L]
  split
  ·exact List.length_set
  ·rfl
/-- How many lists of numbers may be tried. -/
def QbY (x:Qg) (d:List Bool):Nat→Int
 | 0=>1
 | k+1=>match x.Kinds[k]? with
  | some q=>if (d.getD k false&&decide (QbY x d k≤131072))=true then QbY x d k * (q.Hi - q.Lo+1) else QbY x d k
  | none=>QbY x d k
noncomputable def Qmy (x:Qg) (L:List Qh) (want:List Int):List Int×Int:=
 if want.length≠x.Kinds.length∨numL want=false then ([],1)
 else if 131072<QbY x (Qhr L want.length) x.Kinds.length then ([],4)
 else if (Qg9 L want (Qhr L want.length)).2<0 then ([],14)
 else ((Qg9 L want (Qhr L want.length)).1.L.take want.length,0)
theorem VL.weak {y:Qh} {a b:Int} (h:VL y a) (hab:a≤b):VL y b:=⟨h.a0,by have:=h.a1;omega,h.b0,by have:=h.b1;omega,h.m0,h.m1⟩
theorem Qsh {c:List Int}:numL c=true↔NumP c:=by
 unfold numL NumP isN
 simp[List.all_eq_true]
theorem Qw0 {x:Qg} {want:List Int} {L:List Qh} {nm:List Str} (hLim:Qb1 x=some (L,nm,0)) (hk:x.Kinds.length≤6) (hK:∀k∈x.Kinds,0≤k.Lo∧k.Lo≤k.Hi∧k.Hi≤65536)
  (hL:∀y∈L,VL y (x.Kinds.length:Int)) (hf:L.length≤1000000) (hw:want.length≤1000000):Qa9 x want=some (Qmy x L want):=by
 unfold Qa9
 rw[hLim]
 simp only[Option.bind_some]
 rw[if_neg (by decide)]
 unfold Qmy
 have hq:∀z∈want,QdH z=some (!isN z):=fun z _=>by
  unfold QdH
  rfl
 by_cases hn:want.length=x.Kinds.length
 ·have e0:((want.length:Int) !=(x.Kinds.length:Int))=false:=by simp[hn]
  rw[e0]
  simp only[show (false==false)=true from rfl,Qhq,Bool.false_or]
  rw[anyInt hw hq]
  simp only[Option.bind_some]
  by_cases ha:numL want=true
  ·have ea:(want.any fun z=>!isN z)=false:=by
    unfold numL at ha
    rw[List.any_eq_false]
    intro z hz
    have:=List.all_eq_true.1 ha z hz
    simp[this]
   have hW:=Qsh.1 ha
   rw[ea,if_neg (by decide),if_neg (by simp[hn,ha]),QtJ _ _ (by omega)]
   simp only[Option.bind_some]
   let st:Nat→List Bool:=fun k=>(L.take k).foldl (fun d y=>if y.B≥0 then d.set y.B.toNat true else d) (List.replicate want.length false)
   have hst:∀k,(st k).length=want.length:=fun k=>by
    exact (Qld (L.take k) _).trans List.length_replicate
   refine Qef L.length (fun k=>((k:Int),st k)) (st L.length) rfl (fun k hk'=>?_) ?_ ?_
   ·dsimp only
    have es:st (k+1)=if L[k].B≥0 then (st k).set L[k].B.toNat true else st k:=by
     show (L.take (k+1)).foldl _ _=_
     rw[List.take_succ_eq_append_getElem hk',List.foldl_append]
     rfl
    rw[if_pos (by simpa using hk'),Qaa hk']
    simp only[Option.bind_some,es,Q1 hk' (show L.length≤9223372036854775807 by omega)]
    have hb1:=(hL _ (List.getElem_mem hk')).b1
    by_cases hb:L[k].B≥0
    ·rw[if_pos (by simpa using hb),if_pos hb]
     have hs:setAt (st k) L[k].B true=some ((st k).set L[k].B.toNat true):=by
      unfold setAt
      rw[if_pos ⟨hb,by rw[hst];omega⟩]
     rw[hs]
     rfl
    ·rw[if_neg (by simpa using hb),if_neg hb]
     rfl
   ·dsimp only
    rw[if_neg (by simp)]
   ·have eD:st L.length=Qhr L want.length:=by show (L.take L.length).foldl _ _=_;rw[List.take_length];rfl
    rw[eD]
    have hDl:(Qhr L want.length).length=want.length:=by rw[←eD];exact hst _
    generalize hD:Qhr L want.length=D at hDl ⊢
    have hp:∀k,k≤x.Kinds.length→0≤QbY x D k∧QbY x D k≤131072 * 65537:=by
     intro k
     induction k with
     | zero=>intro _;exact⟨show (0:Int)≤1 by decide,show (1:Int)≤131072 * 65537 by decide⟩
     | succ k ih=>
      intro h
      obtain⟨i1,i2⟩:=ih (by omega)
      have hq:=hK _ (List.getElem_mem (show k<x.Kinds.length by omega))
      unfold QbY
      rw[List.getElem?_eq_getElem (by omega)]
      dsimp only
      split
      ·rename_i hc
       simp only[Bool.and_eq_true,decide_eq_true_eq] at hc
       refine⟨Int.mul_nonneg i1 (by omega),?_⟩
       exact Int.mul_le_mul hc.2 (by omega) (by omega) (by decide)
      ·exact⟨i1,i2⟩
    refine Qef x.Kinds.length (fun k=>((k:Int),QbY x D k)) (QbY x D x.Kinds.length) rfl (fun k hk'=>?_) ?_ ?_
    ·dsimp only
     have hkD:k<D.length:=by omega
     obtain⟨i1,i2⟩:=hp k (by omega)
     obtain⟨j1,j2⟩:=hp (k+1) (by omega)
     have hq:=hK _ (List.getElem_mem hk')
     have es:QbY x D (k+1)=if (D.getD k false&&decide (QbY x D k≤131072))=true then QbY x D k * (x.Kinds[k].Hi - x.Kinds[k].Lo+1) else QbY x D k:=by
      rw[QbY,List.getElem?_eq_getElem hk']
     rw[if_pos (by simpa using hk'),Qaa hk',Qaa hkD,←getD_lt' (z:=false) hkD]
     simp only[Option.bind_some,Q1 hk' (show x.Kinds.length≤9223372036854775807 by omega)]
     rw[es] at j1 j2 ⊢
     by_cases hc:(D.getD k false&&decide (QbY x D k≤131072))=true
     ·rw[if_pos hc] at j1 j2
      rw[if_pos hc,if_pos hc,w64 (n:=x.Kinds[k].Hi - x.Kinds[k].Lo) (by omega) (by omega),w64 (n:=x.Kinds[k].Hi - x.Kinds[k].Lo+1) (by omega) (by omega),w64 (by omega) (by omega)]
      rfl
     ·rw[if_neg hc,if_neg hc]
      rfl
    ·dsimp only
     rw[if_neg (by simp)]
    ·by_cases hpr:131072<QbY x D x.Kinds.length
     ·rw[if_pos (by simpa using hpr),if_pos hpr]
     ·rw[if_neg (by simpa using hpr),if_neg hpr]
      have hS:SrOk L want D:=⟨hf,fun y hy=>(hL y hy).weak (by omega),hW,by omega,hDl⟩
      have ht:=QtN hS want.length (want.length+2) [] (padV [],-1) (by omega) (by simp) (fun z hz=>by cases hz)
      have e0:dst want []=0:=by simp[dst]
      rw[e0] at ht
      unfold Qfs
      rw[show zz6=padV [] from rfl]
      refine (congrArg (Option.bind · _) ht).trans ?_
      simp only[Option.bind_some]
      show (if decide ((Qg9 L want D).2<0)=true then _ else _)=_
      by_cases hc:(Qg9 L want D).2<0
      ·rw[if_pos (by simpa using hc),if_pos hc]
      ·rw[if_neg (by simpa using hc),if_neg hc]
       have hs:sub (Qg9 L want D).1.L 0 (want.length:Int)=some ((Qg9 L want D).1.L.take want.length):=by
        unfold sub
        rw[if_pos ⟨by omega,by omega,by simp[Qs.L];omega⟩]
        simp
       refine (congrArg (Option.bind · _) hs).trans ?_
       simp only[Option.bind_some]
       unfold Qds
       rw[Qg8 (by simp;omega)]
       rfl
  ·have ea:(want.any fun z=>!isN z)=true:=by
    simp only[numL,List.all_eq_true] at ha
    rw[List.any_eq_true]
    simp only[Classical.not_forall] at ha
    obtain⟨z,hz,hh⟩:=ha
    exact⟨z,hz,by simpa using hh⟩
   rw[ea,if_pos rfl,if_pos (.inr (by simpa using ha))]
 ·have e0:((want.length:Int) !=(x.Kinds.length:Int))=true:=by simp;omega
  rw[e0,if_pos (.inl hn)]
  rfl

end Go.Proofs.YtcdccjagknlmpaaGreatDoor

namespace Go.Proofs.YtcdccjagknlmpaaGreatDoor
open Go.Sim

theorem Qu1 {x:List Int} (h:x.length≤6):(padV x).L.take x.length=x:=by
 refine List.ext_getElem (by simp[Qs.L];omega) fun i h1 h2=>?_
 rw[List.getElem_take]
 have e:=Qp0 (p:=x) (i:=(i:Int)) (by omega) (by omega)
 unfold nth at e
 rw[Int.toNat_natCast,getD_lt' (by simp[Qs.L];omega),getD_lt' h2] at e
 exact e
theorem QtO (a b:Int):farS a b=farS b a:=by
 unfold farS imax
 split<;>split<;>omega
section
variable {L:List Qh} {W:List Int} (hv:∀y∈L,VL y (W.length:Int)∧y.B<y.A)
include hv
end

end Go.Proofs.YtcdccjagknlmpaaGreatDoor

namespace Go.Proofs.YtcdccjagknlmpaaGreatDoor
open Go.Sim

theorem Qsi:∀(a b r:List Int),a.length=b.length→cmpL (a++r) (b++r)=if cmpL a b=0 then cmpL r r else cmpL a b
 | [],[],r,_=>by simp[cmpL]
 | x::a,y::b,r,h=>by
  rw[List.cons_append,List.cons_append,Qfv,Qfv,Qsi a b r (by simpa using h)]
  split
  ·rfl
  ·split<;>rfl
theorem Qow:∀r:List Int,cmpL r r=0
 | []=>by simp[cmpL]
 | x::r=>by rw[Qfv,if_neg (by omega),if_neg (by omega)];exact Qow r
theorem QnQ:∀a b:List Int,cmpL a b=- cmpL b a
 | [],[]=>by simp[cmpL]
 | [],_::_=>by simp[cmpL]
 | _::_,[]=>by simp[cmpL]
 | x::a,y::b=>by
  rw[Qfv,Qfv]
  by_cases h1:x<y
  ·rw[if_pos h1,if_neg (by omega),if_pos h1]
  ·rw[if_neg h1]
   by_cases h2:y<x
   ·rw[if_pos h2,if_pos h2];rfl
   ·rw[if_neg h2,if_neg h2,if_neg h1];exact QnQ a b
theorem Qrt:∀a b:List Int,a.length=b.length→cmpL a b=0→a=b
 | [],[],_,_=>rfl
 | x::a,y::b,h,e=>by
  rw[Qfv] at e
  by_cases h1:x<y
  ·rw[if_pos h1] at e;omega
  ·rw[if_neg h1] at e
   by_cases h2:y<x
   ·rw[if_pos h2] at e;omega
   ·rw[if_neg h2] at e
    rw[show x=y by omega,Qrt a b (by simpa using h) e]
theorem Qqo:∀a b c:List Int,a.length=b.length→b.length=c.length→cmpL a b≤0→cmpL b c≤0→cmpL a c≤0
 | [],[],[],_,_,_,_=>by simp[cmpL]
 | x::a,y::b,z::c,h,k,e,f=>by
  rw[Qfv] at e f ⊢
  by_cases h1:x<z
  ·rw[if_pos h1];decide
  ·rw[if_neg h1]
   by_cases h2:z<x
   ·exfalso
    by_cases a1:x<y
    ·rw[if_neg (by omega),if_pos (by omega)] at f;omega
    ·rw[if_neg a1] at e
     by_cases a2:y<x
     ·rw[if_pos a2] at e;omega
     ·rw[if_neg (by omega),if_pos (by omega)] at f;omega
   ·rw[if_neg h2]
    by_cases a1:x<y
    ·rw[if_neg (by omega),if_pos (by omega)] at f;omega
    ·rw[if_neg a1] at e
     by_cases a2:y<x
     ·rw[if_pos a2] at e;omega
     ·rw[if_neg a2] at e
      rw[if_neg (by omega),if_neg (by omega)] at f
      exact Qqo a b c (by simpa using h) (by simpa using k) e f
/-- Numbers are at least as near as others, and if they are as near, not behind them. -/
def LeP (W a b:List Int):Prop:=dst W a<dst W b∨(dst W a=dst W b∧cmpL a b≤0)
theorem LeP.self (W a:List Int):LeP W a a:=.inr ⟨rfl,by rw[Qow];decide⟩
theorem LeP.trans {W a b c:List Int} (h:LeP W a b) (k:LeP W b c) (e:a.length=b.length) (f:b.length=c.length):LeP W a c:=by
 rcases h with h | ⟨h,h'⟩<;>rcases k with k | ⟨k,k'⟩
 ·exact .inl (by omega)
 ·exact .inl (by omega)
 ·exact .inl (by omega)
 ·exact .inr ⟨by omega,Qqo a b c e f h' k'⟩
def Qle (W:List Int) (l:List (List Int)) (r:List Int):Prop:=r∈l∧∀z∈l,LeP W r z
theorem Qle.unique {W:List Int} {l:List (List Int)} {r s:List Int} (hl:∀z∈l,z.length=W.length) (h:Qle W l r) (k:Qle W l s):r=s:=by
 have e:r.length=s.length:=by rw[hl r h.1,hl s k.1]
 rcases h.2 s k.1 with a | ⟨a,a'⟩<;>rcases k.2 r h.1 with b | ⟨b,b'⟩
 ·omega
 ·omega
 ·omega
 ·rw[QnQ s r] at b'
  exact Qrt r s e (by omega)
theorem Qsj {x:List Int} (h:x.length≤6):(padV x).L=x++List.replicate (6 - x.length) 0:=by
 refine List.ext_getElem (by simp[Qs.L];omega) fun i h1 h2=>?_
 have e:=Qp0 (p:=x) (i:=(i:Int)) (by omega) (by simp[Qs.L] at h1;omega)
 unfold nth at e
 rw[Int.toNat_natCast,getD_lt' h1] at e
 rw[e,List.getElem_append]
 split
 ·rename_i hi;rw[getD_lt' hi]
 ·rename_i hi
  rw[List.getD_eq_getElem?_getD,List.getElem?_eq_none (by omega)]
  simp
theorem Qw1 {a b:List Int} (h:a.length=b.length) (h6:a.length≤6):cmpL (padV a).L (padV b).L=cmpL a b:=by
 rw[Qsj h6,Qsj (by omega),←h,Qsi a b _ h,Qow]
 split
 ·rename_i e;rw[e]
 ·rfl
theorem Qox {W:List Int} (h6:W.length≤6):∀(l:List (List Int)) (r:List Int),r.length=W.length→(∀z∈l,z.length=W.length)→∃s,Qle W (r::l) s∧l.foldl (upd W) (padV r,dst W r)=(padV s,dst W s)
 | [],r,_,_=>⟨r,⟨List.mem_cons_self ..,fun z hz=>by rw[List.mem_singleton.1 hz];exact LeP.self W r⟩,rfl⟩
 | x::l,r,hr,hl=>by
  have hx:=hl x (List.mem_cons_self ..)
  have hl':=fun z hz=>hl z (List.mem_cons_of_mem _ hz)
  rw[List.foldl_cons]
  have hp:cmpL (padV x).L (padV r).L=cmpL x r:=Qw1 (by omega) (by omega)
  have hd:=Qnt W r
  by_cases hc:(dst W r<0∨dst W x<dst W r∨(dst W x=dst W r∧cmpL (padV x).L (padV r).L<0))
  ·have e:upd W (padV r,dst W r) x=(padV x,dst W x):=if_pos hc
   rw[e]
   obtain⟨s,hs,es⟩:=Qox h6 l x hx hl'
   have le:LeP W x r:=by
    rcases hc with hc | hc | ⟨hc,hc'⟩
    ·omega
    ·exact .inl hc
    ·rw[hp] at hc';exact .inr ⟨hc,by omega⟩
   have hsl:s.length=W.length:=(List.mem_cons.1 hs.1).elim (fun e=>e▸hx) (hl' s)
   refine⟨s,⟨List.mem_cons_of_mem _ hs.1,fun z hz=>?_⟩,es⟩
   rcases List.mem_cons.1 hz with rfl | hz
   ·exact (hs.2 x (List.mem_cons_self ..)).trans le (by omega) (by omega)
   ·exact hs.2 z hz
  ·have e:upd W (padV r,dst W r) x=(padV r,dst W r):=if_neg hc
   rw[e]
   obtain⟨s,hs,es⟩:=Qox h6 l r hr hl'
   have le:LeP W r x:=by
    rw[hp] at hc
    rcases Int.lt_trichotomy (dst W r) (dst W x) with h | h | h
    ·exact .inl h
    ·refine .inr ⟨h,?_⟩
     rw[QnQ r x]
     rcases Int.lt_or_le (cmpL x r) 0 with h2 | h2
     ·exact absurd (.inr (.inr ⟨h.symm,h2⟩)) hc
     ·omega
    ·exact absurd (.inr (.inl h)) hc
   have hsl:s.length=W.length:=(List.mem_cons.1 hs.1).elim (fun e=>e▸hr) (hl' s)
   refine⟨s,⟨?_,fun z hz=>?_⟩,es⟩
   ·rcases List.mem_cons.1 hs.1 with h | h
    ·rw[h];exact List.mem_cons_self ..
    ·exact List.mem_cons_of_mem _ (List.mem_cons_of_mem _ h)
   ·rcases List.mem_cons.1 hz with rfl | hz
    ·exact hs.2 z (List.mem_cons_self ..)
    ·rcases List.mem_cons.1 hz with rfl | hz
     ·exact (hs.2 r (List.mem_cons_self ..)).trans le (by omega) (by omega)
     ·exact hs.2 z (List.mem_cons_of_mem _ hz)
theorem QkV {L:List Qh} {W:List Int} {D:List Bool}:∀(m:Nat) (p:List Int),p.length+m=W.length→∀x∈QaW L W D m p,x.length=W.length
 | 0,p,h,x,hx=>by rw[List.mem_singleton.1 hx];omega
 | m+1,p,h,x,hx=>by
  unfold QaW at hx
  split at hx
  ·cases hx
  ·split at hx
   ·obtain⟨v,_,hv⟩:=List.mem_flatMap.1 hx
    exact QkV m (p++[v]) (by simp;omega) x hv
   ·exact QkV m _ (by simp;omega) x hx
/-- The best leaf, or nothing. -/
def QjN (W:List Int) (l:List (List Int)) (r:List Int):Prop:=(l=[]∧r=[])∨Qle W l r
theorem Qw2 {L:List Qh} {W:List Int} {D:List Bool} (h6:W.length≤6) (h1:1≤W.length) {r:List Int} (h:QjN W (QaW L W D W.length []) r):
  (if (Qg9 L W D).2<0 then (([]:List Int),(14:Int)) else ((Qg9 L W D).1.L.take W.length,0))=if r=[] then ([],14) else (r,0):=by
 have hl:=QkV (L:=L) (W:=W) (D:=D) W.length [] (by simp)
 rcases h with⟨h,rfl⟩ | h
 ·rw[if_pos (Qnu.2 h),if_pos rfl]
 ·have hr:r.length=W.length:=hl r h.1
  have hne:r≠[]:=fun e=>by rw[e] at hr;simp at hr;omega
  rw[if_neg hne,if_neg (fun hb=>by rw[Qnu.1 hb] at h;cases h.1)]
  have hbs:∃s,Qle W (QaW L W D W.length []) s∧Qg9 L W D=(padV s,dst W s):=by
   unfold Qg9
   cases hle:QaW L W D W.length [] with
   | nil=>rw[hle] at h;cases h.1
   | cons x l=>
    rw[hle] at hl
    rw[List.foldl_cons]
    have e:upd W (padV [],-1) x=(padV x,dst W x):=if_pos (.inl (by decide))
    rw[e]
    exact Qox h6 l x (hl x (List.mem_cons_self ..)) fun z hz=>hl z (List.mem_cons_of_mem _ hz)
  obtain⟨s,hs,es⟩:=hbs
  have e:=hs.unique hl h
  subst e
  rw[es]
  dsimp only
  rw[←hr,Qu1 (by omega)]
def QlU (W a b:List Int):List Int:=if a=[] then b else if b=[] then a else if dst W a≠dst W b then (if dst W a<dst W b then a else b) else if cmpL b a<0 then b else a
theorem QtP {W:List Int} {l m:List (List Int)} {r s:List Int} (h1:1≤W.length) (hl:∀z∈l,z.length=W.length) (hm:∀z∈m,z.length=W.length) (h:QjN W l r) (k:QjN W m s):QjN W (l++m) (QlU W r s):=by
 have ne:∀z:List Int,z.length=W.length→z≠[]:=fun z hz e=>by rw[e] at hz;simp at hz;omega
 rcases h with⟨rfl,rfl⟩ | h
 ·rw[List.nil_append]
  show QjN W m (if ([]:List Int)=[] then s else _)
  rw[if_pos rfl];exact k
 rcases k with⟨rfl,rfl⟩ | k
 ·rw[List.append_nil]
  unfold QlU
  rw[if_neg (ne r (hl r h.1)),if_pos rfl];exact .inr h
 refine .inr ?_
 have er:=hl r h.1
 have es:=hm s k.1
 have left:LeP W r s→Qle W (l++m) r:=fun hrs=>⟨List.mem_append_left _ h.1,fun z hz=>(List.mem_append.1 hz).elim (h.2 z) fun hz=>hrs.trans (k.2 z hz) (by omega) (by rw[es,hm z hz])⟩
 have right:LeP W s r→Qle W (l++m) s:=fun hrs=>⟨List.mem_append_right _ k.1,fun z hz=>(List.mem_append.1 hz).elim (fun hz=>hrs.trans (h.2 z hz) (by omega) (by rw[er,hl z hz])) (k.2 z)⟩
 unfold QlU
 rw[if_neg (ne r er),if_neg (ne s es)]
 by_cases hd:dst W r=dst W s
 ·rw[if_neg (fun h=>h hd)]
  by_cases hc:cmpL s r<0
  ·rw[if_pos hc];exact right (.inr ⟨hd.symm,by omega⟩)
  ·rw[if_neg hc];exact left (.inr ⟨hd,by rw[QnQ r s];omega⟩)
 ·rw[if_pos hd]
  by_cases hc:dst W r<dst W s
  ·rw[if_pos hc];exact left (.inl hc)
  ·rw[if_neg hc];exact right (.inl (by omega))

end Go.Proofs.YtcdccjagknlmpaaGreatDoor

namespace Go.Proofs.YtcdccjagknlmpaaGreatDoor
open Go.Sim

theorem Qqp {p n:Int} (hp:I64 p):Ok (Qag p n) (fun r=>0≤r∧(1≤n→r<n)∧(n≤0→r=0)):=by
 have hp':=hp
 unfold I64 at hp'
 have key:∀q:Int,0≤q→Ok (if decide (n<1)=true then some 0 else (nz n).bind fun _=>some (Int.tmod q n)) (fun r=>0≤r∧(1≤n→r<n)∧(n≤0→r=0)):=fun q hq=>by
  refine Ok.ite (fun h=>?_) (fun h=>?_)
  ·have:n<1:=of_decide_eq_true h
   exact Ok.mk ⟨Int.le_refl _,fun h=>by omega,fun _=>rfl⟩
  ·have:¬n<1:=of_decide_eq_false h
   rw[nz_of (by omega)]
   exact Ok.mk ⟨Int.tmod_nonneg _ hq,fun _=>Int.tmod_lt_of_pos _ (by omega),fun h=>by omega⟩
 unfold Qag
 refine Ok.bind (P:=fun q=>0≤q) (Ok.ite (fun h=>?_) (fun h=>?_)) (fun q hq=>key q hq)
 ·have:p<0:=of_decide_eq_true h
  refine Ok.mk ?_
  have e1:IntKind.i64.wrap (p+1)=p+1:=w64 (by omega) (by omega)
  rw[e1,w64 (by omega) (by omega)];omega
 ·have:¬p<0:=of_decide_eq_false h
  exact Ok.mk (by omega)

section
variable {β:Type} {Q:β→Prop}
theorem Ok.around {p n:Int} {f:Int→Option β} (hp:I64 p) (hn:1≤n) (k:∀r,0≤r→r<n→Ok (f r) Q):Ok ((Qag p n).bind f) Q:=
 (Qqp hp).bind fun r h=>k r h.1 (h.2.1 hn)
theorem Ok.around0 {p n:Int} {f:Int→Option β} (hp:I64 p) (k:∀r,0≤r→(1≤n→r<n)→Ok (f r) Q):Ok ((Qag p n).bind f) Q:=
 (Qqp hp).bind fun r h=>k r h.1 h.2.1

def MOk (m:QM):Prop:=∀x∈m.L,I64 x
theorem QlV {m:QM} {n:Int} (hm:MOk m) (hn:1≤n):Ok (QI m n) (fun r=>0≤r.1∧r.1<n∧MOk r.2):=by
 unfold QI Qf7
 refine Ok.bind (P:=fun r=>0≤r∧r<n) (Ok.ite (fun h=>Ok.mk ⟨Int.le_refl _,by omega⟩) (fun h=>?_)) (fun r hr=>Ok.mk ⟨hr.1,hr.2,hm⟩)
 simp only[Bool.or_eq_false_iff,decide_eq_false_iff_not] at h
 refine Ok.idx (by omega) (by omega) fun v hv _=>?_
 exact Ok.around (hm v hv) hn fun r h0 h1=>Ok.mk ⟨h0,h1⟩
theorem Ok.take {m:QM} {n:Int} {f:Int×QM→Option β} (hm:MOk m) (hn:1≤n) (k:∀r m',0≤r→r<n→MOk m'→Ok (f (r,m')) Q):Ok ((QI m n).bind f) Q:=
 (QlV hm hn).bind fun r h=>k r.1 r.2 h.1 h.2.1 h.2.2
end

/-- A name of the generators: it is short and does not begin with a z. -/
def SN (s:Str):Prop:=s.length≤20∧s.head?≠some 122
/-- The names of a field. -/
def FN (f:Qb):Prop:=SN f.Name∧SN f.Of∧SN f.Up
/-- A field of the generators. -/
def FOk (f:Qb):Prop:=f.Words.length≤6∧f.Weights.length≤6∧FN f
/-- A kind of the generators, with at most n fields. -/
def KOk (n:Nat) (k:Qj):Prop:=k.Fields.length≤n∧(∀f∈k.Fields,FOk f)∧SN k.Name

theorem Qpm {l:List Qb} {name:Str} (hl:l.length≤1000):Ok (Qfp l name) (fun r=>-1≤r∧r<l.length):=by
 unfold Qfp
 refine Ok.bind (P:=fun e=>match e with | .inl _=>True | .inr r=>0≤r∧r<l.length) (Ok.loop (fun k s=>0≤s∧s+k=l.length) l.length ⟨by omega,by omega⟩ fun k s hs=>?_) (fun e he=>?_)
 ·refine Ok.ite (fun h=>?_) (fun h=>Ok.mk trivial)
  have h':s<l.length:=of_decide_eq_true h
  refine Ok.idx hs.1 h' fun v _ _=>Ok.ite (fun _=>Ok.mk ⟨hs.1,h'⟩) (fun _=>Ok.mk ?_)
  rw[w64 (by omega) (by omega)]
  exact⟨k - 1,by omega,by omega,by omega⟩
 ·rcases e with e | e
  ·exact Ok.mk ⟨by omega,by omega⟩
  ·exact Ok.mk ⟨by omega,he.2⟩
theorem QtQ {k:Qj} (hl:k.Fields.length≤1000):Ok (QgC k) (fun r=>-1≤r∧r<k.Fields.length):=by
 unfold QgC
 refine Ok.bind (P:=fun e=>match e with | .inl _=>True | .inr r=>0≤r∧r<k.Fields.length) (Ok.loop (fun n s=>0≤s∧s+n=k.Fields.length) k.Fields.length ⟨by omega,by omega⟩ fun n s hs=>?_) (fun e he=>?_)
 ·refine Ok.ite (fun h=>?_) (fun h=>Ok.mk trivial)
  have h':s<k.Fields.length:=of_decide_eq_true h
  refine Ok.idx hs.1 h' fun v _ _=>Ok.ite (fun _=>Ok.mk ⟨hs.1,h'⟩) (fun _=>Ok.mk ?_)
  rw[w64 (by omega) (by omega)]
  exact⟨n - 1,by omega,by omega,by omega⟩
 ·rcases e with e | e
  ·exact Ok.mk ⟨by omega,by omega⟩
  ·exact Ok.mk ⟨by omega,he.2⟩

theorem Qru {m:QM} (hm:MOk m):Ok (Qc7 m) (fun r=>r.1.length≤2∧(∀f∈r.1,FOk f)∧MOk r.2):=by
 unfold Qc7
 refine Ok.take hm (by decide) fun r m1 _ _ h1=>?_
 refine Ok.ite (fun _=>?_) (fun _=>?_)
 ·refine Ok.take h1 (by decide) fun r2 m2 _ _ h2=>Ok.take h2 (by decide) fun r3 m3 _ _ h3=>Ok.mk ⟨by simp,by simp[FOk,FN,SN],h3⟩
 refine Ok.ite (fun _=>?_) (fun _=>?_)
 ·refine Ok.take h1 (by decide) fun r2 m2 h20 h21 h2=>?_
  have hr2:IntKind.i64.wrap (1+r2)=1+r2:=w64 (by omega) (by omega)
  refine Ok.sub (by decide) (by dsimp only;rw[hr2];omega) (by dsimp only;rw[hr2];simp;omega) fun w hw _=>?_
  dsimp only at hw
  rw[hr2] at hw
  have hwl:1≤w.length∧w.length≤3:=by omega
  refine Ok.bind (P:=fun r=>r.1.length=w.length∧MOk r.2) (Ok.loop (fun k s=>0≤s.1∧s.1+k=w.length∧s.2.1.length=s.1∧MOk s.2.2) w.length ⟨Int.le_refl _,by simp,by simp,h2⟩ fun k s hs=>?_) (fun p hp=>?_)
  ·obtain⟨i,ws,m3⟩:=s
   obtain⟨e1,e2,e3,e4⟩:=hs
   dsimp only at e1 e2 e3 e4
   refine Ok.ite (fun h=>?_) (fun h=>?_)
   ·have h':i<w.length:=of_decide_eq_true h
    refine Ok.take e4 (by decide) fun r4 m4 _ _ h4=>Ok.rm (by simp;omega) (Ok.mk ?_)
    dsimp only
    rw[w64 (by omega) (by omega)]
    exact⟨k - 1,by omega,by omega,by omega,by simp;omega,h4⟩
   ·have h':¬i<w.length:=of_decide_eq_false h
    exact Ok.mk ⟨by dsimp only;omega,e4⟩
  ·refine Ok.take hp.2 (by omega) fun r4 m4 h40 h41 h4=>Ok.take h4 (by decide) fun r5 m5 _ _ h5=>?_
   refine Ok.setAt h40 (by dsimp only;omega) (Ok.mk ⟨by simp,?_,h5⟩)
   intro f hf
   rw[List.mem_singleton] at hf
   subst hf
   exact⟨by dsimp only;omega,by simp only[List.length_set];omega,by simp[FN,SN]⟩
 refine Ok.ite (fun _=>?_) (fun _=>?_)
 ·refine Ok.take h1 (by decide) fun r2 m2 _ _ h2=>Ok.take h2 (by decide) fun r3 m3 _ _ h3=>Ok.take h3 (by decide) fun r4 m4 _ _ h4=>Ok.take h4 (by decide) fun r5 m5 _ _ h5=>Ok.mk ⟨by simp,by simp[FOk,FN,SN],h5⟩
 refine Ok.ite (fun _=>?_) (fun _=>?_)
 ·refine Ok.take h1 (by decide) fun r2 m2 _ _ h2=>Ok.take h2 (by decide) fun r3 m3 _ _ h3=>Ok.mk ⟨by simp,by simp[FOk,FN,SN],h3⟩
 refine Ok.ite (fun _=>?_) (fun _=>?_)
 ·refine Ok.take h1 (by decide) fun r2 m2 _ _ h2=>Ok.take h2 (by decide) fun r3 m3 _ _ h3=>Ok.take h3 (by decide) fun r4 m4 _ _ h4=>Ok.take h4 (by decide) fun r5 m5 _ _ h5=>Ok.mk ⟨by simp,by simp[FOk,FN,SN],h5⟩
 ·exact Ok.mk ⟨by simp,by simp,h1⟩

end Go.Proofs.YtcdccjagknlmpaaGreatDoor

namespace Go.Proofs.YtcdccjagknlmpaaGreatDoor
open Go.Sim

/-- A kind of the generator: its name is not empty. -/
def GOk (n:Nat) (k:Qj):Prop:=KOk n k∧1≤k.Name.length∧k.Name.length≤6
theorem GOk.weak {a b:Nat} {k:Qj} (h:GOk a k) (hab:a≤b):GOk b k:=⟨⟨by have:=h.1.1;omega,h.1.2⟩,h.2⟩
theorem fok {n o u:Str} {k lo hi:Int} (h1:SN n) (h2:SN o) (h3:SN u):FOk ⟨n,o,u,k,lo,hi,[],[]⟩:=⟨by simp,by simp,h1,h2,h3⟩
theorem Qpn:SN []:=by simp[SN]
theorem Qmz {c:Bool} {a b:QM} (h:c=true→MOk a) (k:MOk b):MOk (bif c==true then a else b):=by
 cases c with
 | true=>exact h rfl
 | false=>exact k
set_option maxHeartbeats 1000000 in
theorem Qw3 {m:QM} {l:List Qj} {N:Nat} (hm:MOk m) (hl:l.length≤2) (hN:N≤20) (hk:∀k∈l,GOk N k):
  Ok (Qeo m l) (fun r=>GOk 9 r.1∧MOk r.2.1∧r.2.2.length=l.length∧∀k∈r.2.2,GOk (N+1) k):=by
 unfold Qeo
 refine Ok.take hm (by decide) fun r1 m1 a1 b1 h1=>?_
 refine Ok.idx a1 (by simpa using b1) fun lo _ _=>?_
 refine Ok.idx (by omega) (by simp;omega) fun name hname _=>?_
 have hn:1≤name.length∧name.length≤6:=by
  simp only[List.mem_cons,List.not_mem_nil,or_false] at hname
  rcases hname with rfl | rfl | rfl<;>decide
 have hsn:SN name:=by
  simp only[List.mem_cons,List.not_mem_nil,or_false] at hname
  rcases hname with rfl | rfl | rfl<;>simp[SN]
 refine Ok.take h1 (by decide) fun r2 m2 _ _ h2=>?_
 refine Ok.take h2 (by decide) fun r3 m3 a3 b3 h3=>?_
 refine Ok.idx a3 (by simpa using b3) fun id0 _ _=>?_
 refine Ok.rm (by simp) ?_
 refine Ok.bind (P:=fun p:QM×List Qb×List Qj=>MOk p.1∧p.2.1.length≤4∧(∀f∈p.2.1,FOk f)∧p.2.2.length=l.length∧∀k∈p.2.2,GOk (N+1) k)
  (Ok.ite (fun hpos=>?_) (fun _=>Ok.mk ⟨h3,by simp,by simp[FOk,FN,SN],rfl,fun k h=>(hk k h).weak (by omega)⟩)) fun p hp=>?_
 ·have hpos':(0:Int)<l.length:=of_decide_eq_true hpos
  refine Ok.take h3 (by omega) fun to m4 a4 b4 h4=>?_
  refine Ok.idx a4 b4 fun kt hkt ekt=>?_
  refine Ok.take h4 (by decide) fun r5 m5 a5 b5 h5=>?_
  refine Ok.idx a5 (by simpa using b5) fun hi _ _=>?_
  refine Ok.take h5 (by decide) fun r6 m6 _ _ h6=>?_
  have skt:=(hk kt hkt).1.2.2
  refine Ok.bind (P:=FOk) (Ok.ite (fun _=>Ok.mk (fok (by simp[SN]) skt Qpn)) (fun _=>Ok.mk (fok (by simp[SN]) skt Qpn))) fun f hf=>?_
  refine Ok.rm (by simp) ?_
  refine Ok.idx a4 b4 fun kt1 hkt1 _=>?_
  refine (QtQ (by have:=(hk _ hkt1).1.1;omega)).bind fun c hc=>?_
  refine Ok.opt (P:=fun r:Int×QM=>MOk r.2) (fun h=>(QlV h6 (by decide)).weak fun r h=>h.2.2) fun r7 h7=>?_
  have m7:MOk (bif (decide (c≥(0:Int)))==true then r7.2 else m6):=Qmz (fun h=>h7 (by rw[h];rfl)) h6
  refine Ok.bind (P:=fun p:List Qb=>p.length≤3∧∀f∈p,FOk f) (Ok.ite (fun h=>?_) (fun _=>Ok.mk ⟨by simp,?_⟩)) fun fs hfs=>?_
  ·simp only[Bool.and_eq_true,decide_eq_true_eq] at h
   refine Ok.idx a4 b4 fun kt2 hkt2 ekt2=>?_
   have e:kt2=kt1:=by simp_all
   subst e
   refine Ok.idx h.1 hc.2 fun g hg _=>Ok.rm (by simp) (Ok.mk ⟨by simp,?_⟩)
   have sg:=((hk _ hkt1).1.2.1 g hg).2.2.1
   intro x hx
   simp only[List.nil_append,List.cons_append,List.mem_cons,List.not_mem_nil,or_false] at hx
   rcases hx with rfl | rfl | rfl
   ·simp[FOk,FN,SN]
   ·exact hf
   ·exact fok (by simp[SN]) sg (by simp[SN])
  ·intro x hx
   simp only[List.nil_append,List.cons_append,List.mem_cons,List.not_mem_nil,or_false] at hx
   rcases hx with rfl | rfl
   ·simp[FOk,FN,SN]
   ·exact hf
  ·refine Ok.idx a4 b4 fun kt3 hkt3 ekt3=>?_
   refine (Qpm (by have:=(hk _ hkt3).1.1;omega)).bind fun tot htot=>?_
   refine Ok.opt (P:=fun r:Int×QM=>MOk r.2) (fun h=>(QlV m7 (by decide)).weak fun r h=>h.2.2) fun r8 h8=>?_
   have m8:MOk (bif (decide (tot<(0:Int)))==true then r8.2 else (bif (decide (c≥(0:Int)))==true then r7.2 else m6)):=Qmz (fun h=>h8 (by rw[h];rfl)) m7
   refine Ok.bind (P:=fun p:QM×List Qb×List Qj=>MOk p.1∧p.2.1.length≤4∧(∀f∈p.2.1,FOk f)∧p.2.2.length=l.length∧∀k∈p.2.2,GOk (N+1) k)
    (Ok.ite (fun h=>?_) (fun _=>Ok.mk ⟨m8,by have:=hfs.1;dsimp only;omega,hfs.2,rfl,fun k h=>(hk k h).weak (by omega)⟩)) fun p hp=>Ok.mk hp
   refine Ok.take m8 (by decide) fun r9 m9 _ _ h9=>Ok.take h9 (by decide) fun r10 m10 _ _ h10=>?_
   refine Ok.rm (by have:=hfs.1;simp;omega) ?_
   refine Ok.idx a4 b4 fun kt4 hkt4 ekt4=>?_
   have hk4:=hk _ hkt4
   have hk41:=hk4.1.1
   refine Ok.rm (by simp;omega) (Ok.rm (by simp;omega) ?_)
   refine Ok.idx a4 b4 fun kt5 hkt5 ekt5=>?_
   have e:kt5=kt4:=by simp_all
   subst e
   refine Ok.setAt a4 b4 (Ok.mk ⟨h10,?_,?_,?_,?_⟩)
   ·have:=hfs.1;simp;omega
   ·intro x hx
    rcases List.mem_append.1 hx with hx | hx
    ·exact hfs.2 x hx
    ·rw[List.mem_singleton] at hx;subst hx;simp[FOk,FN,SN]
   ·simp
   ·intro k hkm
    rcases List.mem_or_eq_of_mem_set hkm with hkm | rfl
    ·exact (hk k hkm).weak (by omega)
    ·refine⟨⟨?_,?_,hk4.1.2.2⟩,hk4.2⟩
     ·simp;omega
     ·intro x hx
      rcases List.mem_append.1 hx with hx | hx
      ·exact hk4.1.2.1 x (by simpa using hx)
      ·rw[List.mem_singleton] at hx;subst hx;exact fok (by simp[SN]) hsn Qpn
 ·obtain⟨q1,q2,q3,q4,q5⟩:=hp
  refine Ok.opt (P:=fun r:Int×QM=>MOk r.2) (fun h=>(QlV q1 (by decide)).weak fun r h=>h.2.2) fun r11 h11=>?_
  have m11:MOk (bif (decide ((l.length:Int)>(1:Int)))==true then r11.2 else p.1):=Qmz (fun h=>h11 (by rw[h];rfl)) q1
  refine Ok.bind (P:=fun p:List Qb=>p.length≤5∧∀f∈p,FOk f) (Ok.ite (fun h=>?_) (fun _=>Ok.mk ⟨by omega,q3⟩)) fun fs hfs=>?_
  ·simp only[Bool.and_eq_true,decide_eq_true_eq] at h
   refine Ok.idx (by decide) (by omega) fun k0 hk0 _=>Ok.rm (by simp;omega) (Ok.mk ⟨by simp;omega,?_⟩)
   intro x hx
   rcases List.mem_append.1 hx with hx | hx
   ·exact q3 x hx
   ·rw[List.mem_singleton] at hx;subst hx;exact fok (by simp[SN]) (q5 k0 hk0).1.2.2 Qpn
  ·refine (Qru m11).bind fun r12 h12=>?_
   obtain⟨c1,c2,c3⟩:=h12
   obtain⟨f1,f2⟩:=hfs
   refine Ok.rm (by omega) ?_
   refine Ok.take c3 (by decide) fun r13 m13 _ _ h13=>?_
   have all7:∀f∈fs++r12.1,FOk f:=fun x hx=>(List.mem_append.1 hx).elim (f2 x) (c2 x)
   have len7:(fs++r12.1).length≤7:=by simp;omega
   refine Ok.bind (P:=fun p:QM×List Qb=>MOk p.1∧p.2.length≤9∧∀f∈p.2,FOk f) (Ok.ite (fun h=>?_) (fun _=>Ok.mk ⟨h13,by dsimp only;omega,all7⟩)) fun p52 hp52=>Ok.mk ⟨⟨⟨hp52.2.1,hp52.2.2,hsn⟩,hn⟩,hp52.1,q4,q5⟩
   refine (Qru h13).bind fun r14 h14=>?_
   obtain⟨d1,d2,d3⟩:=h14
   refine Ok.opt (P:=fun _=>True) (fun h=>?_) fun g _=>?_
   ·have h':(r14.1.length:Int)>0:=by simpa using h
    exact (Ok.idx (by decide) (by omega) fun v _ _=>Ok.mk trivial:Ok ((idx r14.1 0).bind some) _).weak (fun _ h=>h) |> fun h=>by simpa using h
   refine Ok.opt (P:=fun _=>True) (fun h=>(Qpm (by omega)).weak fun _ _=>trivial) fun g2 _=>?_
   refine Ok.bind (P:=fun p:List Qb=>p.length≤9∧∀f∈p,FOk f) (Ok.ite (fun h=>Ok.rm (by omega) (Ok.mk ⟨by rw[List.length_append];omega,fun x hx=>(List.mem_append.1 hx).elim (all7 x) (d2 x)⟩)) (fun _=>Ok.mk ⟨by omega,all7⟩)) fun p64 hp64=>Ok.mk ⟨d3,hp64.1,hp64.2⟩

end Go.Proofs.YtcdccjagknlmpaaGreatDoor

namespace Go.Proofs.YtcdccjagknlmpaaGreatDoor
open Go.Sim

/-- The names of a rule. -/
def RN (r:Qm):Prop:=SN r.Name∧SN r.Kind∧SN r.A∧SN r.B
theorem Qrv {a r:Str} (h1:1≤a.length) (h2:a.length≤10) (h:a.head?≠some 122) (hr:r.length=1):SN (a++r):=by
 refine⟨by rw[List.length_append];omega,?_⟩
 cases a with
 | nil=>simp at h1
 | cons c a=>simpa using h
theorem Qw4 {m:QM} {k:Qj} (hm:MOk m) (hk:GOk 12 k):Ok (Qep m k) (fun r=>RN r.1∧MOk r.2.2):=by
 unfold Qep
 obtain⟨⟨k1,k2,ks⟩,k3,k4⟩:=hk
 refine (Qpm (by omega)).bind fun a ha=>(Qpm (by omega)).bind fun b hb=>?_
 refine Ok.opt (P:=fun r:Int×QM=>MOk r.2) (fun h=>(QlV hm (by decide)).weak fun r h=>h.2.2) fun r1 h1=>?_
 have m1:MOk (bif (decide (a≥(0:Int)))==true then r1.2 else m):=Qmz (fun h=>h1 (by rw[h];rfl)) hm
 have nm:∀{β:Type} {Q:β→Prop} {f:Str→Option β},(∀r:Str,r.length=1→Ok (f r) Q)→Ok ((sub k.Name 0 1).bind f) Q:=fun h=>Ok.sub (by decide) (by decide) (by omega) fun r hr _=>h r (by simpa using hr)
 refine Ok.ite (fun _=>nm fun r hr=>Ok.cat (by simp;omega) (Ok.take m1 (by decide) fun _ m2 _ _ h2=>Ok.mk ⟨⟨Qrv (by simp) (by simp) (by simp) hr,ks,by simp[SN],by simp[SN]⟩,h2⟩)) (fun _=>?_)
 refine Ok.ite (fun _=>Ok.mk ⟨by simp[RN,SN],m1⟩) (fun h=>?_)
 have hb0:¬b<0:=of_decide_eq_false h
 refine Ok.idx (by omega) hb.2 fun f _ _=>Ok.take m1 (by decide) fun r2 m2 _ _ h2=>?_
 refine Ok.ite (fun _=>nm fun r hr=>Ok.cat (by simp;omega) (Ok.take h2 (by decide) fun _ m2 _ _ h2=>Ok.mk ⟨⟨Qrv (by simp) (by simp) (by simp) hr,ks,by simp[SN],by simp[SN]⟩,h2⟩)) (fun _=>nm fun r hr=>Ok.cat (by simp;omega) (Ok.take h2 (by decide) fun _ m2 _ _ h2=>Ok.mk ⟨⟨Qrv (by simp) (by simp) (by simp) hr,ks,by simp[SN],by simp[SN]⟩,h2⟩))

/-- A schema of the generators. -/
def SOk (n:Nat) (x:Qg):Prop:=x.Kinds.length≤3∧(∀k∈x.Kinds,KOk 14 k)∧x.Lives.length≤1∧(∀m∈x.Lives,m.States.length≤6∧m.Moves.length≤8∧SN m.Name)∧x.Rules.length≤n∧∀r∈x.Rules,RN r
theorem SOk.weak {a b:Nat} {x:Qg} (h:SOk a x) (hab:a≤b):SOk b x:=⟨h.1,h.2.1,h.2.2.1,h.2.2.2.1,Nat.le_trans h.2.2.2.2.1 hab,h.2.2.2.2.2⟩

theorem QtR {l:List Int} (hl:∀x∈l,I64 x):Ok (QgD l) (SOk 2):=by
 unfold QgD
 refine Ok.sub (by decide) (by unfold imin;split<;>omega) (by unfold imin;split<;>omega) fun w _ hw=>?_
 have h0:MOk (QM.mk w 0):=fun x hx=>hl x (hw x hx)
 refine Ok.take h0 (by decide) fun v m1 _ _ h1=>Ok.take h1 (by decide) fun n m2 a2 b2 h2=>?_
 have en:IntKind.i64.wrap (1+n)=1+n:=w64 (by omega) (by omega)
 refine Ok.bind (P:=fun p:List Qj×QM=>p.1.length=1+n∧(∀k∈p.1,GOk 12 k)∧MOk p.2)
  (Ok.loop (fun k s=>0≤s.1∧s.1+k=1+n∧s.2.1.length=s.1∧(∀q∈s.2.1,GOk (9+s.1.toNat) q)∧MOk s.2.2) (1+n).toNat ⟨Int.le_refl _,by dsimp only;omega,by simp,by simp,h2⟩ fun k s hs=>?_) (fun p hp=>?_)
 ·obtain⟨i,ks,m3⟩:=s
  obtain⟨e1,e2,e3,e4,e5⟩:=hs
  dsimp only at e1 e2 e3 e4 e5
  refine Ok.ite (fun h=>?_) (fun h=>?_)
  ·have h':i<1+n:=by have:=of_decide_eq_true h;rwa [en] at this
   refine (Qw3 (N:=9+i.toNat) e5 (by omega) (by omega) e4).bind fun r hr=>?_
   obtain⟨r1,r2,r3,r4⟩:=hr
   refine Ok.rm (by simp;omega) (Ok.mk ?_)
   have ei:IntKind.i64.wrap (i+1)=i+1:=w64 (by omega) (by omega)
   refine⟨k - 1,by omega,?_⟩
   dsimp only
   rw[ei]
   refine⟨by omega,by omega,by simp;omega,fun q hq=>?_,r2⟩
   rcases List.mem_append.1 hq with hq | hq
   ·exact (r4 q hq).weak (by omega)
   ·rw[List.mem_singleton] at hq;subst hq;exact r1.weak (by omega)
  ·have h':¬i<1+n:=by have:=of_decide_eq_false h;rwa [en] at this
   refine Ok.mk ⟨by dsimp only;omega,fun q hq=>(e4 q hq).weak (by omega),e5⟩
 obtain⟨p1,p2,p3⟩:=hp
 refine Ok.take p3 (by decide) fun t m4 a4 b4 h4=>?_
 have et:IntKind.i64.wrap (2+t)=2+t:=w64 (by omega) (by omega)
 refine Ok.sub (by decide) (by dsimp only;rw[et];omega) (by dsimp only;rw[et];simp;omega) fun st hst _=>?_
 dsimp only at hst
 rw[et] at hst
 have hsl:2≤st.length∧st.length≤4:=by omega
 refine Ok.bind (P:=fun p:List QU=>p.length≤3) (Ok.loop (fun k s=>0≤s.1∧s.1+1+k=st.length∧s.2.length=s.1) (st.length - 1) ⟨Int.le_refl _,by dsimp only;omega,by simp⟩ fun k s hs=>?_) (fun mv hmv=>?_)
 ·obtain⟨i,ms⟩:=s
  obtain⟨e1,e2,e3⟩:=hs
  dsimp only at e1 e2 e3
  have ei:IntKind.i64.wrap (i+1)=i+1:=w64 (by omega) (by omega)
  refine Ok.ite (fun h=>?_) (fun h=>?_)
  ·have h':i+1<st.length:=by have:=of_decide_eq_true h;rwa [ei] at this
   refine Ok.rm (by simp;omega) (Ok.mk ⟨k - 1,by omega,?_⟩)
   dsimp only
   rw[ei]
   exact⟨by omega,by omega,by simp;omega⟩
  ·have h':¬i+1<st.length:=by have:=of_decide_eq_false h;rwa [ei] at this
   exact Ok.mk (by dsimp only;omega)
 refine Ok.take h4 (by decide) fun r5 m5 _ _ h5=>?_
 refine Ok.bind (P:=fun p:List QU=>p.length≤4) (Ok.ite (fun _=>Ok.rm (by simp;omega) (Ok.mk (by simp;omega))) (fun _=>Ok.mk (by omega))) fun mv2 hmv2=>?_
 refine Ok.take h5 (by decide) fun r6 m6 _ _ h6=>?_
 refine Ok.bind (P:=fun p:List QU=>p.length≤5) (Ok.ite (fun _=>Ok.rm (by simp;omega) (Ok.mk (by simp;omega))) (fun _=>Ok.mk (by omega))) fun mv3 hmv3=>?_
 refine Ok.rm (by simp) ?_
 refine Ok.bind (P:=fun p:List Qm=>p.length≤2∧∀r∈p,RN r) (Ok.loop (fun k s=>0≤s.1∧s.1+k=1+n∧(s.2.1.length≤2∧∀r∈s.2.1,RN r)∧MOk s.2.2) (1+n).toNat ⟨Int.le_refl _,by dsimp only;omega,by simp,h6⟩ fun k s hs=>?_) (fun rs hrs=>?_)
 ·obtain⟨i,rs,m7⟩:=s
  obtain⟨e1,e2,e3,e4⟩:=hs
  dsimp only at e1 e2 e3 e4
  refine Ok.ite (fun h=>?_) (fun h=>Ok.mk e3)
  simp only[Bool.and_eq_true,decide_eq_true_eq,en] at h
  refine Ok.idx e1 (by omega) fun q hq _=>(Qw4 e4 (p2 q hq)).bind fun r hr=>?_
  refine Ok.bind (P:=fun p:List Qm=>p.length≤2∧∀r∈p,RN r) (Ok.ite (fun _=>Ok.rm (by simp;omega) (Ok.mk ⟨by simp;omega,fun y hy=>(List.mem_append.1 hy).elim (e3.2 y) fun hy=>by rw[List.mem_singleton] at hy;subst hy;exact hr.1⟩)) (fun _=>Ok.mk e3)) fun rs2 hrs2=>Ok.mk ⟨k - 1,by omega,?_⟩
  dsimp only
  rw[w64 (n:=i+1) (by omega) (by omega)]
  exact⟨by omega,by omega,hrs2,hr.2⟩
 ·refine Ok.mk ⟨by dsimp only;omega,fun q hq=>⟨by have:=(p2 q hq).1.1;omega,(p2 q hq).1.2⟩,by simp,?_,hrs⟩
  intro q hq
  simp only[List.nil_append,List.mem_singleton] at hq
  subst hq
  exact⟨by dsimp only;omega,by dsimp only;omega,by simp[SN]⟩

end Go.Proofs.YtcdccjagknlmpaaGreatDoor

namespace Go.Proofs.YtcdccjagknlmpaaGreatDoor
open Go.Sim

theorem Ok.same {β:Type} {x:Option β} {Q:β→Prop} (h:Ok x Q):Ok (x.bind fun p=>some p) Q:=h.bind fun _ hr=>Ok.mk hr
theorem Qjr {α:Type} {P:α→Prop} {l:List α} {i:Nat} {x:α} (h:∀y∈l,P y) (hx:P x):∀y∈l.set i x,P y:=fun y hy=>(List.mem_or_eq_of_mem_set hy).elim (h y) fun e=>e▸hx

theorem Qp3 {f:Qb} {h b:Int} (hf:FOk f) (hh:I64 h) (hb:I64 b):Ok (QdS f h b) (fun g=>g.Words.length≤7∧g.Weights.length≤7∧FN g):=by
 obtain⟨f1,f2,f3⟩:=hf
 unfold QdS
 simp only[List.nil_append,List.length_nil,Nat.zero_add]
 have out:f.Words.length≤7∧f.Weights.length≤7∧FN f:=⟨by omega,by omega,f3⟩
 have sn:∀{l:List Str} {s:Str},s∈l→(∀n∈l,SN n)→SN s:=fun h k=>k _ h
 refine Ok.around hh (by decide) fun w w0 w1=>Ok.same (Ok.ite (fun _=>?_) (fun _=>Ok.same (Ok.ite (fun _=>?_) (fun _=>Ok.same (Ok.ite (fun _=>?_) (fun _=>Ok.same (Ok.ite (fun _=>?_) (fun _=>Ok.same (Ok.ite (fun _=>?_) (fun _=>Ok.same (Ok.ite (fun _=>?_) (fun _=>Ok.same (Ok.ite (fun _=>?_) (fun _=>?_))))))))))))))
 ·exact Ok.around hb (by decide) fun _ _ _=>Ok.mk out
 ·exact Ok.around hb (by decide) fun i i0 i1=>Ok.idx i0 (by simpa using i1) fun _ hs _=>Ok.mk ⟨out.1,out.2.1,sn hs (by simp[SN]),f3.2⟩
 ·exact Ok.around hb (by decide) fun i i0 i1=>Ok.idx i0 (by simpa using i1) fun _ hs _=>Ok.mk ⟨out.1,out.2.1,f3.1,sn hs (by simp[SN]),f3.2.2⟩
 ·exact Ok.around hb (by decide) fun i i0 i1=>Ok.idx i0 (by simpa using i1) fun _ hs _=>Ok.mk ⟨out.1,out.2.1,f3.1,f3.2.1,sn hs (by simp[SN])⟩
 ·exact Ok.around hb (by decide) fun i i0 i1=>Ok.idx i0 (by simpa using i1) fun _ _ _=>Ok.mk out
 ·exact Ok.around hb (by decide) fun i i0 i1=>Ok.idx i0 (by simpa using i1) fun _ _ _=>Ok.mk out
 ·exact Ok.rm (by omega) (Ok.around hb (by decide) fun i i0 i1=>Ok.idx i0 (by simpa using i1) fun _ _ _=>Ok.rm (by simp;omega) (Ok.rm (by omega) (Ok.around (QiB _) (by decide) fun i i0 i1=>Ok.idx i0 (by simpa using i1) fun _ _ _=>Ok.rm (by simp;omega) (Ok.mk ⟨by simp;omega,by simp;omega,f3⟩))))
 ·exact Ok.mk' (by omega) (by omega) (Ok.mk ⟨out.1,by simp;omega,f3⟩)

end Go.Proofs.YtcdccjagknlmpaaGreatDoor

namespace Go.Proofs.YtcdccjagknlmpaaGreatDoor
open Go.Sim

def FZ (f:Qb):Prop:=f.Words.length≤7∧f.Weights.length≤7∧FN f
def KA (l:List Qj):Prop:=l.length≤3∧∀k∈l,k.Fields.length≤14∧(∀f∈k.Fields,FZ f)∧SN k.Name
def LA (l:List Qn):Prop:=l.length≤1∧∀m∈l,m.States.length≤7∧m.Moves.length≤9∧SN m.Name
/-- A schema of the laws. -/
def RA (l:List Qm):Prop:=l.length≤4∧∀r∈l,RN r
def Sz (x:Qg):Prop:=KA x.Kinds∧LA x.Lives∧RA x.Rules
theorem FOk.z {f:Qb} (h:FOk f):FZ f:=⟨by have:=h.1;omega,by have:=h.2.1;omega,h.2.2⟩
theorem SOk.sz {n:Nat} {x:Qg} (h:SOk n x) (hn:n≤4):Sz x:=
 ⟨⟨h.1,fun k hk=>⟨(h.2.1 k hk).1,fun f hf=>((h.2.1 k hk).2.1 f hf).z,(h.2.1 k hk).2.2⟩⟩,⟨h.2.2.1,fun m hm=>⟨by have:=(h.2.2.2.1 m hm).1;omega,by have:=(h.2.2.2.1 m hm).2.1;omega,(h.2.2.2.1 m hm).2.2⟩⟩,Nat.le_trans h.2.2.2.2.1 hn,h.2.2.2.2.2⟩

theorem QtS {x:Qg} {a h b:Int} (hx:SOk 2 x) (ha:I64 a) (hh:I64 h) (hb:I64 b):Ok (QgE x a h b) Sz:=by
 have hz:=hx.sz (by decide)
 obtain⟨x1,x2,x3,x4,x5,x6⟩:=hx
 obtain⟨zk,zl,zr⟩:=hz
 have sn:∀{l:List Str} {s:Str},s∈l→(∀n∈l,SN n)→SN s:=fun h k=>k _ h
 unfold QgE
 simp only[List.nil_append,List.length_nil,Nat.zero_add]
 refine Ok.rm (by omega) (Ok.rm (by omega) (Ok.rm (by omega) ?_))
 refine Ok.around0 ha fun i i0 i1=>Ok.around hh (by decide) fun w w0 w1=>?_
 refine Ok.bind (P:=fun p:List Qj×List Qn×List Qm×Int=>KA p.1∧LA p.2.1∧RA p.2.2.1) (Ok.ite (fun _=>?_) (fun _=>?_)) fun p hp=>Ok.mk hp
 ·exact Ok.around hb (by decide) fun j j0 j1=>Ok.idx j0 (by simpa using j1) fun _ _ _=>Ok.mk ⟨zk,zl,zr⟩
 refine Ok.bind (P:=fun p:List Qn×List Qm×List Qj=>KA p.2.2∧LA p.1∧RA p.2.1) (Ok.ite (fun _=>?_) (fun _=>?_)) fun p hp=>Ok.mk hp
 ·refine Ok.bind (P:=KA) (Ok.ite (fun hc=>?_) (fun _=>Ok.mk zk)) fun p hp=>Ok.mk ⟨hp,zl,zr⟩
  have hc':i<x.Kinds.length:=of_decide_eq_true hc
  exact Ok.around hb (by decide) fun j j0 j1=>Ok.idx j0 (by simpa using j1) fun _ hs _=>Ok.idx i0 hc' fun k hk _=>Ok.setAt i0 hc' (Ok.mk ⟨by simpa using x1,Qjr zk.2 (⟨(zk.2 k hk).1,(zk.2 k hk).2.1,sn hs (by simp[SN])⟩)⟩)
 refine Ok.bind (P:=fun p:List Qn×List Qm×List Qj=>KA p.2.2∧LA p.1∧RA p.2.1) (Ok.ite (fun _=>?_) (fun _=>?_)) fun p hp=>Ok.mk hp
 ·refine Ok.bind (P:=KA) (Ok.ite (fun hc=>?_) (fun _=>Ok.mk zk)) fun p hp=>Ok.mk ⟨hp,zl,zr⟩
  have hc':i<x.Kinds.length:=of_decide_eq_true hc
  exact Ok.around hb (by decide) fun j j0 j1=>Ok.idx j0 (by simpa using j1) fun _ _ _=>Ok.idx i0 hc' fun k hk _=>Ok.setAt i0 hc' (Ok.mk ⟨by simpa using x1,Qjr zk.2 (zk.2 k hk)⟩)
 refine Ok.bind (P:=fun p:List Qn×List Qm×List Qj=>KA p.2.2∧LA p.1∧RA p.2.1) (Ok.ite (fun _=>?_) (fun _=>?_)) fun p hp=>Ok.mk hp
 ·refine Ok.bind (P:=KA) (Ok.ite (fun hc=>?_) (fun _=>Ok.mk zk)) fun p hp=>Ok.mk ⟨hp,zl,zr⟩
  have hc':i<x.Kinds.length:=of_decide_eq_true hc
  exact Ok.around hb (by decide) fun j j0 j1=>Ok.idx j0 (by simpa using j1) fun _ _ _=>Ok.idx i0 hc' fun k hk _=>Ok.setAt i0 hc' (Ok.mk ⟨by simpa using x1,Qjr zk.2 (zk.2 k hk)⟩)
 refine Ok.bind (P:=fun p:List Qj×List Qm×List Qn=>KA p.1∧LA p.2.2∧RA p.2.1) (Ok.ite (fun _=>?_) (fun _=>?_)) fun p hp=>Ok.mk hp
 ·refine Ok.bind (P:=LA) (Ok.ite (fun hc=>?_) (fun _=>Ok.mk zl)) fun p hp=>Ok.mk ⟨zk,hp,zr⟩
  have hc':(0:Int)<x.Lives.length:=of_decide_eq_true hc
  refine Ok.idx (by decide) hc' fun m hm _=>?_
  have hm':=x4 m hm
  exact Ok.rm (by omega) (Ok.around hb (by decide) fun j j0 j1=>Ok.around (QiB _) (by decide) fun q q0 q1=>Ok.rm (by simp;omega) (Ok.idx (by decide) hc' fun m2 hm2 _=>Ok.setAt (by decide) hc' (Ok.mk ⟨by simpa using x3,Qjr zl.2 ⟨(zl.2 m2 hm2).1,by simp;omega,(zl.2 m2 hm2).2.2⟩⟩)))
 refine Ok.bind (P:=fun p:List Qj×List Qn×List Qm=>KA p.1∧LA p.2.1∧RA p.2.2) (Ok.ite (fun _=>?_) (fun _=>?_)) fun p hp=>Ok.mk hp
 ·exact Ok.around hb (by decide) fun j j0 j1=>Ok.idx j0 (by simpa using j1) fun _ s1 _=>Ok.around (QiB _) (by decide) fun j j0 j1=>Ok.idx j0 (by simpa using j1) fun _ s2 _=>Ok.around (QiB _) (by decide) fun j j0 j1=>Ok.idx j0 (by simpa using j1) fun _ s3 _=>Ok.around hb (by decide) fun _ _ _=>Ok.rm (by simp;omega) (Ok.mk ⟨zk,zl,by simp;omega,fun y hy=>(List.mem_append.1 hy).elim (x6 y) fun hy=>by rw[List.mem_singleton] at hy;subst hy;exact⟨by simp[SN],sn s1 (by simp[SN]),sn s2 (by simp[SN]),sn s3 (by simp[SN])⟩⟩)
 refine Ok.bind (P:=fun p:List Qj×List Qn=>KA p.1∧LA p.2) (Ok.ite (fun _=>?_) (fun _=>?_)) fun p hp=>Ok.mk ⟨hp.1,hp.2,zr⟩
 ·refine Ok.bind (P:=LA) (Ok.ite (fun hc=>?_) (fun _=>Ok.mk zl)) fun p hp=>Ok.mk ⟨zk,hp⟩
  have hc':(0:Int)<x.Lives.length:=of_decide_eq_true hc
  refine Ok.idx (by decide) hc' fun m hm _=>?_
  have hm':=x4 m hm
  exact Ok.rm (by omega) (Ok.around hb (by decide) fun j j0 j1=>Ok.idx j0 (by simpa using j1) fun _ _ _=>Ok.rm (by simp;omega) (Ok.idx (by decide) hc' fun m2 hm2 _=>Ok.setAt (by decide) hc' (Ok.mk ⟨by simpa using x3,Qjr zl.2 ⟨by simp;omega,(zl.2 m2 hm2).2⟩⟩)))
 refine Ok.bind (P:=KA) (Ok.ite (fun hc=>?_) (fun _=>Ok.mk zk)) fun p hp=>Ok.mk ⟨hp,zl⟩
 have hc':i<x.Kinds.length:=of_decide_eq_true hc
 refine Ok.idx i0 hc' fun k hk _=>?_
 have hk':=x2 k hk
 have hk1:=hk'.1
 refine Ok.rm (by omega) (Ok.around0 (QiB _) fun j j0 _=>?_)
 refine Ok.bind (P:=fun p:List Qb=>p.length≤14∧∀f∈p,FZ f) (Ok.ite (fun hj=>?_) (fun _=>Ok.mk ⟨(zk.2 k hk).1,(zk.2 k hk).2.1⟩)) fun fs hfs=>Ok.idx i0 hc' fun k2 hk2 _=>Ok.setAt i0 hc' (Ok.mk ⟨by simpa using x1,Qjr zk.2 ⟨hfs.1,hfs.2,(zk.2 k2 hk2).2.2⟩⟩)
 have hj':j<k.Fields.length:=of_decide_eq_true hj
 exact Ok.idx j0 hj' fun f hf _=>(Qp3 (hk'.2.1 f hf) (QiB _) hb).bind fun g hg=>Ok.setAt j0 hj' (Ok.mk ⟨by simpa using hk1,Qjr (zk.2 k hk).2.1 hg⟩)

end Go.Proofs.YtcdccjagknlmpaaGreatDoor

namespace Go.Proofs.YtcdccjagknlmpaaGreatDoor
open Go.Sim

/-- The index of the first element that is so; -1: none is. -/
def Qbj {α:Type} (s:List α) (p:α→Bool):Int:=match s.findIdx? p with | some k=>(k:Int) | none=>-1
theorem QhN {α:Type} (s:List α) (p:α→Bool):-1≤Qbj s p∧Qbj s p<s.length:=by
 unfold Qbj
 cases h:s.findIdx? p with
 | none=>exact⟨by decide,by show (-1:Int)<_;omega⟩
 | some k=>
  have:=(List.findIdx?_eq_some_iff_getElem.1 h).1
  exact⟨by show (-1:Int)≤(k:Int);omega,by show (k:Int)<_;omega⟩
theorem QcX {α:Type} (s:List α) (p:α→Bool) {body:Int→Option (Int⊕(Unit⊕Int))}
  (hb:∀k (h:k<s.length),body (k:Int)=if p s[k]=true then some (.inr (.inr (k:Int))) else some (.inl ((k+1:Nat):Int))) (he:body (s.length:Int)=some (.inr (.inl ()))):
  QG body (0:Int)=some (match s.findIdx? p with | some k=>.inr (k:Int) | none=>.inl ()):=by
 obtain⟨q,hq⟩:∃q:Nat→Bool,∀k (h:k<s.length),q k=p s[k]:=⟨fun k=>if h:k<s.length then p s[k] else false,fun k h=>dif_pos h⟩
 rcases QkU (ρ:=Unit⊕Int) s.length q (.inl ()) (fun k=>.inr (k:Int))
  (fun k hk hp=>by rw[hb k hk,if_neg (by rw[←hq k hk,hp];decide)]) (fun k hk hp=>by rw[hb k hk,if_pos (by rw[←hq k hk,hp])]) he with⟨k,hk,hp,hj,e⟩ | ⟨hp,e⟩
 ·have:s.findIdx? p=some k:=by
   rw[List.findIdx?_eq_some_iff_getElem]
   refine⟨hk,by rw[←hq k hk,hp],fun j hj'=>?_⟩
   have:=hj j hj'
   rw[hq j (by omega)] at this
   simp[this]
  rw[e,this]
 ·have:s.findIdx? p=none:=by
   rw[List.findIdx?_eq_none_iff]
   intro x hx
   obtain⟨k,hk,rfl⟩:=List.getElem_of_mem hx
   have:=hp k hk
   rwa [hq k hk] at this
  rw[e,this]

section
variable {p:Qj→Bool} {q:Qb→Bool}
theorem Qqq {s:List Qj} {f:Qj→Option Bool} (hs:s.length≤1000000) (hf:∀x∈s,f x=some (p x)):Qbd s f=some (Qbj s p):=by
 unfold Qbd
 rw[QcX s p (fun k hk=>?_) ?_]
 ·unfold Qbj;cases s.findIdx? p<;>rfl
 ·rw[if_neg (by simp)]
 ·rw[if_pos (by simpa using hk),Qaa hk]
  show (f s[k]).bind _=_
  rw[hf _ (List.getElem_mem hk),Q1 hk (by omega)];rfl
theorem Qpo {s:List Qb} {f:Qb→Option Bool} (hs:s.length≤1000000) (hf:∀x∈s,f x=some (q x)):Qa8 s f=some (Qbj s q):=by
 unfold Qa8
 rw[QcX s q (fun k hk=>?_) ?_]
 ·unfold Qbj;cases s.findIdx? q<;>rfl
 ·rw[if_neg (by simp)]
 ·rw[if_pos (by simpa using hk),Qaa hk]
  show (f s[k]).bind _=_
  rw[hf _ (List.getElem_mem hk),Q1 hk (by omega)];rfl
end

/-- The kind, the field with a name. -/
def Q4 (x:Qg) (n:Str):Int:=Qbj x.Kinds fun k=>k.Name==n
def Qav (k:Qj) (n:Str):Int:=Qbj k.Fields fun f=>f.Name==n
theorem QeG {x:Qg} {n:Str} (hx:x.Kinds.length≤1000000):QbW x n=some (Q4 x n):=by
 unfold QbW
 rw[Qqq (f:=fun x0=>QeD x0 n) (p:=fun k=>k.Name==n) hx (fun k _=>rfl)];rfl
theorem Qfw {k:Qj} {n:Str} (hx:k.Fields.length≤1000000):QbE k n=some (Qav k n):=by
 unfold QbE
 rw[Qpo (f:=fun x0=>Qd4 x0 n) (q:=fun k=>k.Name==n) hx (fun k _=>rfl)];rfl
/-- The field of a schema, if there is one. -/
def field? (x:Qg) (k j:Int):Option Qb:=if 0≤k∧0≤j then x.Kinds[k.toNat]?.bind fun q=>q.Fields[j.toNat]? else none
def Qdu:Qb:=Qb.mk [] [] [] 0 0 0 [] []
theorem Qct {x:Qg} {k j:Int} {f:Qb} (h:field? x k j=some f):∃q,0≤k∧0≤j∧idx x.Kinds k=some q∧idx q.Fields j=some f∧q∈x.Kinds∧k<x.Kinds.length∧j<q.Fields.length:=by
 unfold field? at h
 split at h
 ·rename_i hk
  obtain⟨q,h1,h2⟩:=Option.bind_eq_some_iff.1 h
  refine⟨q,hk.1,hk.2,by rw[QgX _ hk.1,h1],by rw[QgX _ hk.2,h2],List.mem_of_getElem? h1,?_,?_⟩
  ·have:=(List.getElem?_eq_some_iff.1 h1).1;omega
  ·have:=(List.getElem?_eq_some_iff.1 h2).1;omega
 ·cases h
theorem Qhs {x:Qg} {k j:Int} {q:Qj} {f:Qb} (hk:0≤k) (hj:0≤j) (h1:idx x.Kinds k=some q) (h2:idx q.Fields j=some f):field? x k j=some f:=by
 rw[QgX _ hk] at h1;rw[QgX _ hj] at h2
 unfold field?
 rw[if_pos ⟨hk,hj⟩,h1];exact h2
theorem Qdm {α:Type} {l:List α} {i:Int} (h0:0≤i) (h1:i<l.length):∃v,idx l i=some v∧v∈l:=by
 have hlt:i.toNat<l.length:=by omega
 exact⟨l[i.toNat],by rw[QgX l h0,List.getElem?_eq_getElem hlt],List.getElem_mem hlt⟩
theorem QmA (x:Qg) (k j:Int):QcW x k j=some (match field? x k j with | some f=>(f,true) | none=>(Qdu,false)):=by
 unfold QcW
 by_cases hc:(0≤k∧k<x.Kinds.length)∧0≤j
 ·obtain⟨⟨h1,h2⟩,h3⟩:=hc
  obtain⟨q,hq,_⟩:=Qdm h1 h2
  have c:((decide (k<0)||decide (k≥(x.Kinds.length:Int)))||decide (j<0))=false:=by simp;omega
  rw[c,hq]
  show (if (false||decide (j≥(q.Fields.length:Int)))=true then _ else _)=_
  by_cases h4:j<q.Fields.length
  ·obtain⟨f,hf,_⟩:=Qdm h3 h4
   rw[if_neg (by simp;omega),Qhs h1 h3 hq hf]
   show (idx q.Fields j).bind _=_
   rw[hf];rfl
  ·rw[if_pos (by simp;omega)]
   have:field? x k j=none:=by
    cases h:field? x k j with
    | none=>rfl
    | some f=>
     obtain⟨q',_,_,e1,e2,_,_,e3⟩:=Qct h
     rw[hq] at e1;cases e1;exact (h4 e3).elim
   rw[this];rfl
 ·have c:((decide (k<0)||decide (k≥(x.Kinds.length:Int)))||decide (j<0))=true:=by simp;omega
  rw[c]
  have:field? x k j=none:=by
   cases h:field? x k j with
   | none=>rfl
   | some f=>
    obtain⟨q',e1,e2,_,_,_,e3,_⟩:=Qct h
    exact (hc ⟨⟨e1,e3⟩,e2⟩).elim
  rw[this];rfl
end Go.Proofs.YtcdccjagknlmpaaGreatDoor

namespace Go.Proofs.YtcdccjagknlmpaaGreatDoor
open Go.Sim

/-- What the way up needs of a schema: it is small. -/
def Few (x:Qg):Prop:=x.Kinds.length≤1000∧∀k∈x.Kinds,k.Fields.length≤1000
theorem Sz.few {x:Qg} (h:Sz x):Few x:=⟨by have:=h.1.1;omega,fun k hk=>by have:=(h.1.2 k hk).1;omega⟩

def QiW (x:Qg) (k:Int) (g:Qb):Int:=if Q4 x g.Of<k then Q4 x g.Of else -1
/-- The kind to which a field leads. -/
def upIx (x:Qg) (k j:Int):Int:=
 match field? x k j with
 | none=>-1
 | some f=>
  if f.Kind=7∨f.Kind=8 then
   match idx x.Kinds k with
   | none=>-1
   | some q=>if Qav q f.Up<j then (match field? x k (Qav q f.Up) with | some g=>if g.Kind=1 then QiW x k g else -1 | none=>-1) else -1
  else if f.Kind=1 then QiW x k f else -1

theorem Qsk {x:Qg} {k j:Int} {g:Qb} {self:Qg→Int→Int→Option Int} (hx:Few x) (h:field? x k j=some g) (hg:g.Kind=1):Qdd self x k j=some (QiW x k g):=by
 unfold Qdd
 rw[QmA,h]
 simp only[Option.bind_some,Bool.not_true,hg]
 rw[if_neg (by decide),if_neg (by decide),if_neg (by decide),QeG (by have:=hx.1;omega)]
 simp only[Option.bind_some,QiW]
 by_cases hl:Q4 x g.Of<k
 ·rw[if_pos (by simpa using hl),if_pos hl]
 ·rw[if_neg (by simpa using hl),if_neg hl]
theorem upS_is {x:Qg} {k j:Int} {self:Qg→Int→Int→Option Int} (hx:Few x) (hs:∀u g,field? x k u=some g→g.Kind=1→self x k u=some (QiW x k g)):Qdd self x k j=some (upIx x k j):=by
 cases hf:field? x k j with
 | none=>
  unfold Qdd upIx
  rw[QmA,hf];rfl
 | some f=>
  by_cases h1:f.Kind=1
  ·rw[Qsk hx hf h1]
   unfold upIx
   rw[hf]
   simp[h1]
  unfold Qdd upIx
  rw[QmA,hf]
  simp only[Option.bind_some,Bool.not_true]
  rw[if_neg (by decide)]
  by_cases c:f.Kind=7∨f.Kind=8
  ·obtain⟨q,hk,hj,hq,hqf,hqm,_,_⟩:=Qct hf
   rw[if_pos (by simpa using c),if_pos c,hq]
   simp only[Option.bind_some]
   rw[Qfw (by have:=hx.2 q hqm;omega)]
   simp only[Option.bind_some]
   rw[QmA]
   simp only[Option.bind_some]
   cases hg:field? x k (Qav q f.Up) with
   | none=>simp
   | some g=>
    simp only
    by_cases hu:Qav q f.Up<j
    ·by_cases hg1:g.Kind=1
     ·rw[if_pos (by simp[hu,hg1]),hs _ g hg hg1,if_pos hu,if_pos hg1];rfl
     ·rw[if_neg (by simp[hg1]),if_pos hu,if_neg hg1]
    ·rw[if_neg (by simp[hu]),if_neg hu]
  ·rw[if_neg (by simpa using c),if_neg c,if_pos (by simpa using h1),if_neg h1]
theorem QkW {x:Qg} {k j:Int} (hx:Few x):Qgi x k j=some (upIx x k j):=by
 unfold Qgi
 exact upS_is hx fun u g h hg=>Qsk hx h hg
/-! Shares -/
theorem Qqr (p:Nat→Bool) (k:Nat):((List.range (k+1)).filter p).map Int.ofNat=if p k=true then ((List.range k).filter p).map Int.ofNat++[(k:Int)] else ((List.range k).filter p).map Int.ofNat:=by
 rw[List.range_succ,List.filter_append,List.map_append]
 by_cases h:p k=true
 ·rw[if_pos h];simp[h]
 ·rw[if_neg h];simp[h]
theorem Qrw (p:Nat→Bool) (k:Nat):(((List.range k).filter p).map Int.ofNat).length≤k:=by
 rw[List.length_map]
 have:=List.length_filter_le p (List.range k)
 simpa using this
def QiX (x:Qg) (o k:Int) (nm:Str) (fs:List Qb) (i:Nat):Bool:=match fs[i]? with | some g=>g.Kind==7&&g.Of==nm&&upIx x o (i:Int)==k | none=>false
def shl (x:Qg) (o k:Int) (nm:Str):List Int:=match idx x.Kinds o with | some q=>((List.range q.Fields.length).filter (QiX x o k nm q.Fields)).map Int.ofNat | none=>[]
def Qlf (x:Qg) (k:Int) (f:Qb):Int×List Int:=if f.Kind≠6∨Q4 x f.Of≤k then (-1,[]) else (Q4 x f.Of,shl x (Q4 x f.Of) k f.Name)
theorem Qj2 (x:Qg) (n:Str):-1≤Q4 x n∧Q4 x n<x.Kinds.length:=QhN _ _

theorem QtT {x:Qg} {k:Int} {f:Qb} (hx:Few x) (hk:0≤k):QdG x k f=some (Qlf x k f):=by
 unfold QdG
 rw[QeG (by have:=hx.1;omega)]
 simp only[Option.bind_some]
 unfold Qlf
 by_cases c:f.Kind≠6∨Q4 x f.Of≤k
 ·rw[if_pos (by simpa using c),if_pos c]
 rw[if_neg (by simpa using c),if_neg c]
 have c':k<Q4 x f.Of:=by
  rcases Int.lt_or_le k (Q4 x f.Of) with h | h
  ·exact h
  ·exact (c (.inr h)).elim
 obtain⟨q,hq,hqm⟩:=Qdm (l:=x.Kinds) (i:=Q4 x f.Of) (by omega) (Qj2 x f.Of).2
 have hl:=hx.2 q hqm
 rw[hq]
 simp only[Option.bind_some]
 refine Qef q.Fields.length (fun n=>((n:Int),((List.range n).filter (QiX x (Q4 x f.Of) k f.Name q.Fields)).map Int.ofNat)) _ rfl (fun n hn=>?_) (if_neg (by simp)) ?_
 ·rw[if_pos (by simpa using hn),Qaa hn]
  simp only[Option.bind_some]
  rw[QkW hx]
  have e:QiX x (Q4 x f.Of) k f.Name q.Fields n=(q.Fields[n].Kind==7&&q.Fields[n].Of==f.Name&&upIx x (Q4 x f.Of) (n:Int)==k):=by
   unfold QiX;rw[List.getElem?_eq_getElem hn]
  have hle:=Qrw (QiX x (Q4 x f.Of) k f.Name q.Fields) n
  rw[Qqr,e,Q1 hn (by omega)]
  cases h1:(q.Fields[n].Kind==7&&q.Fields[n].Of==f.Name) with
  | false=>rfl
  | true=>
   simp only[Sim.opt,Bool.true_and,if_true,beq_self_eq_true,Option.bind_some]
   cases h2:upIx x (Q4 x f.Of) (n:Int)==k with
   | false=>rfl
   | true=>
    rw[if_pos rfl,if_pos rfl,Qg8 (by rw[List.length_singleton];omega)]
    rfl
 ·unfold shl;rw[hq]

end Go.Proofs.YtcdccjagknlmpaaGreatDoor

namespace Go.Proofs.YtcdccjagknlmpaaGreatDoor
open Go.Sim

theorem QeT {α:Type} (s:List α) (p:α→Bool):decide (Qbj s p≥0)=s.any p:=by
 unfold Qbj
 cases h:s.findIdx? p with
 | none=>
  have:=List.findIdx?_eq_none_iff.1 h
  rw[Eq.comm,List.any_eq_false.2 (fun x hx=>by simp[this x hx])]
  rfl
 | some k=>
  obtain⟨hk,hp,_⟩:=List.findIdx?_eq_some_iff_getElem.1 h
  rw[Eq.comm,List.any_eq_true.2 ⟨_,List.getElem_mem hk,hp⟩,Eq.comm]
  exact decide_eq_true (Int.natCast_nonneg k)
theorem Qjs {α:Type} (s:List α) (p:α→Bool):(!s.any fun x=>!p x)=s.all p:=by
 induction s with
 | nil=>rfl
 | cons a s ih=>simp only[List.any_cons,List.all_cons,Bool.not_or,Bool.not_not,ih]

theorem QtU {s:List Qn} {f:Qn→Option Bool} {p:Qn→Bool} (hs:s.length≤1000000) (hf:∀x∈s,f x=some (p x)):Qbu s f=some (Qbj s p):=by
 unfold Qbu
 rw[QcX s p (fun k hk=>?_) ?_]
 ·unfold Qbj;cases s.findIdx? p<;>rfl
 ·rw[if_neg (by simp)]
 ·rw[if_pos (by simpa using hk),Qaa hk]
  show (f s[k]).bind _=_
  rw[hf _ (List.getElem_mem hk),Q1 hk (by omega)];rfl
theorem QtV {s:List Qm} {f:Qm→Option Bool} {p:Qm→Bool} (hs:s.length≤1000000) (hf:∀x∈s,f x=some (p x)):Qbv s f=some (Qbj s p):=by
 unfold Qbv
 rw[QcX s p (fun k hk=>?_) ?_]
 ·unfold Qbj;cases s.findIdx? p<;>rfl
 ·rw[if_neg (by simp)]
 ·rw[if_pos (by simpa using hk),Qaa hk]
  show (f s[k]).bind _=_
  rw[hf _ (List.getElem_mem hk),Q1 hk (by omega)];rfl
theorem QtW {s:List Int} {f:Int→Option Bool} {p:Int→Bool} (hs:s.length≤1000000) (hf:∀x∈s,f x=some (p x)):Qbt s f=some (Qbj s p):=by
 unfold Qbt
 rw[QcX s p (fun k hk=>?_) ?_]
 ·unfold Qbj;cases s.findIdx? p<;>rfl
 ·rw[if_neg (by simp)]
 ·rw[if_pos (by simpa using hk),Qaa hk]
  show (f s[k]).bind _=_
  rw[hf _ (List.getElem_mem hk),Q1 hk (by omega)];rfl
theorem QrN {s:List Str} {f:Str→Option Bool} {p:Str→Bool} (hs:s.length≤1000000) (hf:∀x∈s,f x=some (p x)):Qbh s f=some (Qbj s p):=by
 unfold Qbh
 rw[QcX s p (fun k hk=>?_) ?_]
 ·unfold Qbj;cases s.findIdx? p<;>rfl
 ·rw[if_neg (by simp)]
 ·rw[if_pos (by simpa using hk),Qaa hk]
  show (f s[k]).bind _=_
  rw[hf _ (List.getElem_mem hk),Q1 hk (by omega)];rfl
theorem QrO {s:List QU} {f:QU→Option Bool} {p:QU→Bool} (hs:s.length≤1000000) (hf:∀x∈s,f x=some (p x)):Qbi s f=some (Qbj s p):=by
 unfold Qbi
 rw[QcX s p (fun k hk=>?_) ?_]
 ·unfold Qbj;cases s.findIdx? p<;>rfl
 ·rw[if_neg (by simp)]
 ·rw[if_pos (by simpa using hk),Qaa hk]
  show (f s[k]).bind _=_
  rw[hf _ (List.getElem_mem hk),Q1 hk (by omega)];rfl
theorem Qrx {s:List Qj} {f:Qj→Option Bool} {p:Qj→Bool} (hs:s.length≤1000000) (hf:∀x∈s,f x=some (p x)):Qba s f=some (s.any p):=by
 unfold Qba
 rw[Qqq hs hf,←QeT];rfl
theorem Qw5 {s:List Qj} {f:Qj→Option Bool} {p:Qj→Bool} (hs:s.length≤1000000) (hf:∀x∈s,f x=some (p x)):QcZ s f=some (s.all p):=by
 unfold QcZ
 rw[Qrx (p:=fun x=>!p x) hs (fun x hx=>by show (f x).bind _=_;rw[hf x hx];rfl),←Qjs];rfl
theorem QqQ {s:List Qb} {f:Qb→Option Bool} {p:Qb→Bool} (hs:s.length≤1000000) (hf:∀x∈s,f x=some (p x)):Qa7 s f=some (s.any p):=by
 unfold Qa7
 rw[Qpo hs hf,←QeT];rfl
theorem Qu2 {s:List Qb} {f:Qb→Option Bool} {p:Qb→Bool} (hs:s.length≤1000000) (hf:∀x∈s,f x=some (p x)):Qcz s f=some (s.all p):=by
 unfold Qcz
 rw[QqQ (p:=fun x=>!p x) hs (fun x hx=>by show (f x).bind _=_;rw[hf x hx];rfl),←Qjs];rfl
theorem QkX {s:List Qn} {f:Qn→Option Bool} {p:Qn→Bool} (hs:s.length≤1000000) (hf:∀x∈s,f x=some (p x)):QaJ s f=some (s.any p):=by
 unfold QaJ
 rw[QtU hs hf,←QeT];rfl
theorem Qw6 {s:List Qn} {f:Qn→Option Bool} {p:Qn→Bool} (hs:s.length≤1000000) (hf:∀x∈s,f x=some (p x)):Qc1 s f=some (s.all p):=by
 unfold Qc1
 rw[QkX (p:=fun x=>!p x) hs (fun x hx=>by show (f x).bind _=_;rw[hf x hx];rfl),←Qjs];rfl
theorem Qnv {s:List Qm} {f:Qm→Option Bool} {p:Qm→Bool} (hs:s.length≤1000000) (hf:∀x∈s,f x=some (p x)):QaS s f=some (s.any p):=by
 unfold QaS
 rw[QtV hs hf,←QeT];rfl
theorem Qw7 {s:List Qm} {f:Qm→Option Bool} {p:Qm→Bool} (hs:s.length≤1000000) (hf:∀x∈s,f x=some (p x)):Qc3 s f=some (s.all p):=by
 unfold Qc3
 rw[Qnv (p:=fun x=>!p x) hs (fun x hx=>by show (f x).bind _=_;rw[hf x hx];rfl),←Qjs];rfl
theorem Qry {s:List Int} {f:Int→Option Bool} {p:Int→Bool} (hs:s.length≤1000000) (hf:∀x∈s,f x=some (p x)):Qbb s f=some (s.any p):=by
 unfold Qbb
 rw[QtW hs hf,←QeT];rfl
theorem Qp4 {s:List Str} {f:Str→Option Bool} {p:Str→Bool} (hs:s.length≤1000000) (hf:∀x∈s,f x=some (p x)):QaZ s f=some (s.any p):=by
 unfold QaZ
 rw[QrN hs hf,←QeT];rfl
theorem Qnw {s:List Str} {f:Str→Option Bool} {p:Str→Bool} (hs:s.length≤1000000) (hf:∀x∈s,f x=some (p x)):QbR s f=some (s.all p):=by
 unfold QbR
 rw[Qp4 (p:=fun x=>!p x) hs (fun x hx=>by show (f x).bind _=_;rw[hf x hx];rfl),←Qjs];rfl
theorem Qp5 {s:List QU} {f:QU→Option Bool} {p:QU→Bool} (hs:s.length≤1000000) (hf:∀x∈s,f x=some (p x)):Qa0 s f=some (s.any p):=by
 unfold Qa0
 rw[QrO hs hf,←QeT];rfl
theorem QtX {s:List QU} {f:QU→Option Bool} {p:QU→Bool} (hs:s.length≤1000000) (hf:∀x∈s,f x=some (p x)):Qcc s f=some (s.all p):=by
 unfold Qcc
 rw[Qp5 (p:=fun x=>!p x) hs (fun x hx=>by show (f x).bind _=_;rw[hf x hx];rfl),←Qjs];rfl

def inW (n a b:Int):Bool:=decide (n≥a)&&decide (n≤b)
theorem Qdn {n a b:Int} (h:inW n a b=true):a≤n∧n≤b:=by simpa[inW] using h
def QdK (c:Int):Bool:=inW c 97 122
def QiY (c:Int):Bool:=inW c 48 57
def Qfx (lo hi a b:Int):Bool:=(decide (lo≥a)&&decide (lo≤hi))&&decide (hi≤b)
/-- A name. -/
def Qad (s:Str):Bool:=inW (s.length:Int) 1 12&&(QdK ((s.headD 0).toNat:Int)&&(Q5 s).all fun c=>QdK c||QiY c)
theorem Qf9 (s:Str):Qaq s=some (Qad s):=by
 unfold Qaq Qad
 cases s with
 | nil=>rfl
 | cons c s=>
  show (some (inW ((c::s).length:Int) 1 12)).bind _=_
  simp only[Option.bind_some]
  cases h:inW ((c::s).length:Int) 1 12 with
  | false=>rfl
  | true=>
   have hl:=(Qdn h).2
   rw[show idx (c::s) (0:Int)=some c from rfl]
   simp only[Sim.opt,Bool.not_true,beq_self_eq_true,if_true,Option.bind_some]
   rw[show Qc0 (c.toNat:Int)=some (QdK (c.toNat:Int)) from rfl]
   simp only[Option.bind_some]
   cases hc:QdK (c.toNat:Int) with
   | false=>simp[hc]
   | true=>
    rw[if_neg (by decide),Qry (p:=fun c=>!(QdK c||QiY c)) (by simp only[Q5,List.length_map];omega) (fun x _=>?_)]
    ·simp only[Option.bind_some]
     rw[Qjs]
     simp[hc]
    ·show (some (QdK x)).bind _=_
     simp only[Option.bind_some]
     cases h1:QdK x with
     | true=>rfl
     | false=>show some (true&&!QiY x)=_;rfl

theorem Qu3 {a b:List Str} (ha:a.length≤1000000):QbV a b=some (decide (a=b)):=by
 unfold QbV
 by_cases hl:a.length=b.length
 ·rw[if_neg (by simp[hl])]
  have:Ok ((QG (fun (s7:Int)=>((if (decide (s7<(a.length:Int)))=true then (idx a s7).bind fun t18=>(idx b s7).bind fun t22=>(if (t18 !=t22)=true then (some (.inr (.inr false))) else (some (.inl (IntKind.i64.wrap (s7+(1:Int)))))) else (some (.inr (.inl ())))):Option ((Int)⊕((Unit)⊕(Bool))))) (0:Int)).bind fun (e8:(Unit)⊕(Bool))=>(match e8 with | .inl _=>(some true) | .inr p26=>(some p26))) (fun r=>r=decide (a=b)):=by
   refine Ok.bind (P:=fun e:Unit⊕Bool=>(match e with | .inl _=>true | .inr p=>p)=decide (a=b)) (Ok.loop (fun m s=>0≤s∧s+m=a.length∧a.take s.toNat=b.take s.toNat) a.length ⟨Int.le_refl _,by omega,by simp⟩ fun m s hs=>?_) fun e he=>by cases e<;>exact Ok.mk he
   obtain⟨h1,h2,h3⟩:=hs
   obtain⟨k,rfl⟩:=Int.eq_ofNat_of_zero_le h1
   simp only[Int.toNat_natCast] at h3
   refine Ok.ite (fun hk=>?_) (fun hk=>?_)
   ·have hk':k<a.length:=by simpa using hk
    rw[Qaa hk',Qaa (by omega)]
    simp only[Option.bind_some]
    refine Ok.ite (fun hne=>Ok.mk ?_) (fun heq=>Ok.mk ⟨m - 1,by omega,?_⟩)
    ·show false=_
     rw[Eq.comm,decide_eq_false_iff_not]
     rintro rfl
     simp at hne
    ·have heq':a[k]=b[k]:=by simpa using heq
     rw[Q1 hk' (by omega)]
     refine⟨by omega,by omega,?_⟩
     rw[Int.toNat_natCast,List.take_succ_eq_append_getElem hk',List.take_succ_eq_append_getElem (by omega),h3,heq']
   ·have hk':¬k<a.length:=by simpa using hk
    refine Ok.mk ?_
    show true=_
    rw[List.take_of_length_le (by omega),List.take_of_length_le (by omega)] at h3
    simp[h3]
  obtain⟨r,hr,rfl⟩:=this
  exact hr
 ·rw[if_pos (by simp;omega)]
  have:a≠b:=fun h=>hl (by rw[h])
  simp[this]
theorem eqInt {a b:List Int} (ha:a.length≤1000000):QcA a b=some (decide (a=b)):=by
 unfold QcA
 by_cases hl:a.length=b.length
 ·rw[if_neg (by simp[hl])]
  have:Ok ((QG (fun (s7:Int)=>((if (decide (s7<(a.length:Int)))=true then (idx a s7).bind fun t18=>(idx b s7).bind fun t22=>(if (t18 !=t22)=true then (some (.inr (.inr false))) else (some (.inl (IntKind.i64.wrap (s7+(1:Int)))))) else (some (.inr (.inl ())))):Option ((Int)⊕((Unit)⊕(Bool))))) (0:Int)).bind fun (e8:(Unit)⊕(Bool))=>(match e8 with | .inl _=>(some true) | .inr p26=>(some p26))) (fun r=>r=decide (a=b)):=by
   refine Ok.bind (P:=fun e:Unit⊕Bool=>(match e with | .inl _=>true | .inr p=>p)=decide (a=b)) (Ok.loop (fun m s=>0≤s∧s+m=a.length∧a.take s.toNat=b.take s.toNat) a.length ⟨Int.le_refl _,by omega,by simp⟩ fun m s hs=>?_) fun e he=>by cases e<;>exact Ok.mk he
   obtain⟨h1,h2,h3⟩:=hs
   obtain⟨k,rfl⟩:=Int.eq_ofNat_of_zero_le h1
   simp only[Int.toNat_natCast] at h3
   refine Ok.ite (fun hk=>?_) (fun hk=>?_)
   ·have hk':k<a.length:=by simpa using hk
    rw[Qaa hk',Qaa (by omega)]
    simp only[Option.bind_some]
    refine Ok.ite (fun hne=>Ok.mk ?_) (fun heq=>Ok.mk ⟨m - 1,by omega,?_⟩)
    ·show false=_
     rw[Eq.comm,decide_eq_false_iff_not]
     rintro rfl
     simp at hne
    ·have heq':a[k]=b[k]:=by simpa using heq
     rw[Q1 hk' (by omega)]
     refine⟨by omega,by omega,?_⟩
     rw[Int.toNat_natCast,List.take_succ_eq_append_getElem hk',List.take_succ_eq_append_getElem (by omega),h3,heq']
   ·have hk':¬k<a.length:=by simpa using hk
    refine Ok.mk ?_
    show true=_
    rw[List.take_of_length_le (by omega),List.take_of_length_le (by omega)] at h3
    simp[h3]
  obtain⟨r,hr,rfl⟩:=this
  exact hr
 ·rw[if_pos (by simp;omega)]
  have:a≠b:=fun h=>hl (by rw[h])
  simp[this]

end Go.Proofs.YtcdccjagknlmpaaGreatDoor

/- The logic's part of package variables that are maps of any constants. No condition. -/
import Derived.Test.YtjioihpegfgbpaaGreatDoorSimT
set_option linter.all false
open List
namespace Go.Sim
open Go.ChangeShapes Go.WideShapes Go.WideElems
structure Gent where
 key:Int
 dw:DataW (List UInt8)
 v:Value
def Gent.read (d:Gent):Lit×DataW (List UInt8):=(.int .i64 d.key,d.dw)
def Gent.ent (d:Gent):Value×Value:=(.int .i64 d.key,d.v)
def Qvv {P:Program} {W:World} {fuel:Nat} {t k e:TypeId} {cs:List Value} {D:List Gent} {p:List MemPlace}
  (ht:P.underlying t=some (.map k e)) (hk:P.underlying k=some (.int .i64))
  (hel:∀d∈D,∀(n:Nat) (x:Value) (z:DataW (List UInt8)×List MemPlace),elemAt (funcToken P) P W 0 (λ_=>true) true n e x=some z->z.1=d.dw->x=d.v)
  (h:DataW.trod (funcToken P) P W 0 (λ_=>true) true fuel t cs=some (.map (D.map Gent.read),p)):
  ∃b es clock,cs=[.map (some b)]/\W.heap[b]?=some (.map es clock)/\(∀q∈es.toList.map (λe=>(e.key,e.val)),q∈D.map Gent.ent)/\∀q∈D.map Gent.ent,q∈es.toList.map (λe=>(e.key,e.val)):=by
 rcases open_map ht h with⟨_,hx⟩ | ⟨b,es,clock,n,rfl,hcs,hb,_,F,hx⟩
 ·cases (Zu Prod.fst hx:(_:DataW _)=_)
 have hx1:=Zu Prod.fst hx;simp only[DataW.map.injEq] at hx1;have hperm:=sorted_perm (es.toList.map (rg P k (elemAt (funcToken P) P W 0 (λ_=>true) true n e)));rw[<-hx1] at hperm;have each:∀x∈es.toList,∀d∈D,rg P k (elemAt (funcToken P) P W 0 (λ_=>true) true n e) x=d.read->(x.key,x.val)=d.ent:=by
  intro x hxm d hd hrg;obtain⟨y,hy⟩:=F.reads x hxm;rw[rg_of hy] at hrg;subst hrg;have h1:=rd_key hy;obtain⟨z,h2,h3⟩:=rd_val hy;have hkey:x.key=.int .i64 d.key:=by
   rw[keyOf,hk] at h1;simp only[mapKey,hk] at h1
   cases hkx:x.key with
   | int q m=>rw[hkx] at h1;simp only[Gent.read,Option.ite_none_right_eq_some,ZB,Lit.int.injEq,true_and] at h1;rw[h1.1.1,h1.2]
   | _=>rw[hkx] at h1;cases h1
  have hval:x.val=d.v:=hel d hd n x.val z h2 h3.symm;rw[hkey,hval];rfl
 refine⟨b,es,clock,hcs,hb,λq hq=>?_,λq hq=>?_⟩
 ·obtain⟨x,hxm,rfl⟩:=ZM.1 hq;have hm:=(hperm.mem_iff).2 (mem_map_of_mem (f:=rg P k (elemAt (funcToken P) P W 0 (λ_=>true) true n e)) hxm);obtain⟨d,hd,hdr⟩:=ZM.1 hm;exact ZM.2 ⟨d,hd,(each x hxm d hd hdr.symm).symm⟩
 ·obtain⟨d,hd,rfl⟩:=ZM.1 hq;obtain⟨x,hxm,hdr⟩:=ZM.1 ((hperm.mem_iff).1 (mem_map_of_mem (f:=Gent.read) hd));exact ZM.2 ⟨x,hxm,each x hxm d hd hdr⟩
def QrN {P:Program} {w:World} {base:Nat} {sp:Nat->Bool} {fuel:Nat} {t:TypeId} {c:List Value} {b:Bool} {q:List MemPlace} (ht:P.underlying t=some .bool)
  (h:DataW.trod (funcToken P) P w base sp true fuel t c=some (.lit (.bool b),q)):c=[.bool b]:=by
 cases fuel with
 | zero=>simp[DataW.trod] at h
 | succ n=>unfold DataW.trod at h;rw[ht] at h;split at h<;>simp_all
def Qsh {P:Program} {w:World} {base:Nat} {sp:Nat->Bool} {fuel:Nat} {t:TypeId} {ps rs:Array TypeId} {va:Bool} {c:List Value} {q:List MemPlace} (ht:P.underlying t=some (.func ps rs va))
  (h:DataW.trod (funcToken P) P w base sp true fuel t c=some (.nil,q)):c=[.nilFunc]:=by
 cases fuel with
 | zero=>simp[DataW.trod] at h
 | succ n=>unfold DataW.trod at h;rw[ht] at h;split at h<;>simp_all
def Qqo {P:Program} {w:World} {base:Nat} {sp:Nat->Bool} {fuel:Nat} {t:TypeId} {ps rs:Array TypeId} {va:Bool} {c:List Value} {b:UInt8} {r:List UInt8} {q:List MemPlace} {f0:FuncId}
  (ht:P.underlying t=some (.func ps rs va)) (hone:((range P.funcs.size).filter λf=>(P.funcs[f]?).any (·.name.toUTF8.data.toList==b::r))=[f0])
  (h:DataW.trod (funcToken P) P w base sp true fuel t c=some (.held (b::r),q)):c=[.func (.func f0) #[] #[]]:=by
 have hv:∃v,c=[v]:=by
  cases fuel with
  | zero=>simp[DataW.trod] at h
  | succ n=>have h2:=h;unfold DataW.trod at h2;rw[ht] at h2;split at h2<;>simp_all
 obtain⟨v,rfl⟩:=hv;rw[func_of_trod ht hone h]
def Qsi {P:Program} {W:World} {e:TypeId} {fs:Array Field} {ds:List (DataW (List UInt8)×Value)} {n:Nat} {x:Value} {z:DataW (List UInt8)×List MemPlace}
  (he:P.underlying e=some (.struct fs)) (hce:P.cellsOf e=ds.length) (hfl:fs.size=ds.length) (hof:∀(i:Nat) (f:Field),fs[i]?=some f->f.offset=i/\P.cellsOf f.type=1)
  (hd:∀(i:Nat) (f:Field) (d:DataW (List UInt8)×Value),fs[i]?=some f->ds[i]?=some d->∀(m:Nat) (c:List Value) (y:DataW (List UInt8)×List MemPlace),DataW.trod (funcToken P) P W 0 (λ_=>true) true m f.type c=some y->y.1=d.1->c=[d.2])
  (h:elemAt (funcToken P) P W 0 (λ_=>true) true n e x=some z) (hz:z.1=.agg (ds.map (·.1))):x=.agg (ds.map (·.2)).toArray:=by
 unfold elemAt at h;split at h
 ·rename_i hform
  cases x with
  | agg vs=>
   simp only[Value.formed,he,hce,Ye] at hform;obtain⟨xs,m,rfl,hz2,_,hxl,hel⟩:=DataW.trod_struct he h;subst hz2;simp only[DataW.agg.injEq] at hz;congr 1;apply Array.ext';apply ext_getElem?;intro i;by_cases hi:i<ds.length
   ·have hif:i<fs.size:=by omega
    obtain⟨o1,o2⟩:=hof i fs[i] (Array.getElem?_eq_getElem hif);have h0:=hel i fs[i] (Array.getElem?_eq_getElem hif);have hix:i<xs.length:=by omega
    rw[o1,o2,Zf hix] at h0;have hy:xs[i].1=ds[i].1:=by have:=Zu (λl=>l[i]?) hz;simp only[Yb,Zf hix,Zf hi,ZO,ZB] at this;exact this
    have hc:=hd i fs[i] ds[i] (Array.getElem?_eq_getElem hif) (Zf hi) m _ _ h0 hy;have hiv:i<vs.toList.length:=by simpa using (by omega:i<vs.size)
    have h1:(Value.agg vs).cells.toList=vs.toList:=rfl;rw[h1,drop_eq_getElem_cons hiv] at hc;simp only[take_succ_cons,take_zero,cons.injEq,and_true] at hc;rw[Zf hiv,hc];simp[hi]
   ·rw[getElem?_eq_none (by simp;omega),getElem?_eq_none (by simp;omega)]
  | _=>simp[Value.formed,he] at hform
 ·cases h

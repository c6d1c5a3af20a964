/- What the row's condition on listed variables gives. No condition. -/
import Derived.Test.YtjioihpegfgbpaaGreatDoorSimP
import Derived.ProofKit
import Derived.OpenShut
import Derived.LaidMore
import Derived.Lib.LaidTab
import Derived.WideKeyElems2
set_option linter.all false
open List
namespace Go.Sim
open Go.ChangeShapes Go.WideShapes Go.WideElems
def Qvu {P:Program} {W:World} {name:String} {g:Nat} {cs:Array Value} (hg:P.globalNamed name=some g) (h:W.var? P name=some cs):∃t fz,W.heap[g]?=some (.cells cs t fz):=by
 simp only[World.var?,hg,Za] at h;split at h
 ·rename_i c t fz e;cases h;exact⟨t,fz,e⟩
 ·cases h
def Qsf {H:Type} {enc:TypeId×Value->H} {P:Program} {w:World} {base:Nat} {sp:Nat->Bool} {held:Bool} {fuel:Nat} {t e:TypeId} {n:Nat} {cs:List Value} {zs:List Str} {p:List MemPlace}
  (ht:P.underlying t=some (.array n e)) (he:P.underlying e=some .string) (hce:P.cellsOf e=1) (hct:P.cellsOf t=n)
  (h:DataW.trod enc P w base sp held fuel t cs=some (.agg (zs.map λz=>.lit (.string z)),p)):cs=zs.map λz=>Value.string (sB z):=by
 obtain⟨xs,m,rfl,hx,hl,hn,hel⟩:=DataW.trod_array ht h;simp only[hce,Nat.mul_one,hct] at hel hl;have hxs:xs.map (·.1)=zs.map λz=>(DataW.lit (.string z):DataW H):=by have:=Zu Prod.fst hx;simpa using this.symm
 have hzl:zs.length=n:=by have:=Zu length hxs;simp at this;omega
 apply ext_getElem?;intro i;by_cases hi:i<n
 ·have hf:=hel i hi;rw[Zf (by omega)] at hf;obtain⟨s,hc,hs,_⟩:=DataW.trod_string he hf;have h1:cs[i]?=some (.string s):=by
   have:=Zu (·[0]?) hc;simpa[getElem?_take,getElem?_drop] using this
  have h2:(xs.map (·.1))[i]?=some (DataW.lit (.string s.data.toList):DataW H):=by rw[Yb,Zf (by omega),hs];rfl
  rw[hxs,Yb,Zf (by omega)] at h2;simp only[ZO,ZB,DataW.lit.injEq,Lit.string.injEq] at h2;rw[h1,Yb,Zf (by omega),h2];rfl
 ·rw[getElem?_eq_none (by omega),getElem?_eq_none (by simp;omega)]
def Qkt {P:Program} {W:World} {name:String} {g:Nat} {cs:List Value} {Ts:List Ty} (hg:P.globalNamed name=some g) (h:W.var? P name=some cs.toArray) (hc:QW Ts (free (λ_=>False) W) W cs):
  free (λ_=>False) W g/\∃cur e fz,W.heap[g]?=some (.cells cur e fz)/\QW Ts (free (λ_=>False) W) W cur.toList:=by
 obtain⟨t,fz,hh⟩:=Qvu hg h;refine⟨⟨?_,λf=>f⟩,_,t,fz,hh,hc⟩;refine Nat.lt_of_not_le λhle=>?_;rw[Array.getElem?_eq_none hle] at hh;cases hh
def Ql5 {F:Blk} {w:World} {k:IntKind} (zs:List Int):QW (zs.flatMap (rInt k).cs) F w (zs.map λz=>Value.int k z):=by
 induction zs with
 | nil=>exact .nil
 | cons z zs ih=>exact .cons rfl ih
def QtO {F:Blk} {w:World} (zs:List Str):QW (zs.flatMap rS.cs) F w (zs.map λz=>Value.string (sB z)):=by
 induction zs with
 | nil=>exact .nil
 | cons z zs ih=>exact .cons rfl ih
def Qjx:∀{L:List (Value×Value)} {i:Int} {v:Value},QbF L i=some v->(Value.int .i64 i,v)∈L
 | [],_,_,h=>by cases h
 | (a,b)::L,i,v,h=>by
  unfold QbF at h;split at h
  ·cases h
  ·rename_i k u es e;cases e;split at h
   ·rename_i e;subst e;cases h;exact Zl
   ·exact Zy _ (Qjx h)
  ·rename_i e;cases e;exact Zy _ (Qjx h)
def QtP {a b:Value} {L:List (Value×Value)} {i:Int} (h:a≠.int .i64 i):QbF ((a,b)::L) i=QbF L i:=by
 cases a with
 | int k n=>
  cases k
  case i64=>exact Zb λe=>h (by rw[e])
  all_goals rfl
 | _=>rfl
def Ql6:∀{L:List (Value×Value)} {i:Int} {v:Value},(Value.int .i64 i,v)∈L->∃u,QbF L i=some u
 | (a,b)::L,i,v,h=>by
  by_cases ha:a=.int .i64 i
  ·exact⟨b,by rw[ha];exact Ze rfl⟩
  ·rw[QtP ha];rcases Zm.1 h with h | h
   ·exact (ha (Zu Prod.fst h).symm).elim
   ·exact Ql6 h
def QtQ {L E:List (Value×Value)} (hu:∀i v v',(Value.int .i64 i,v)∈E->(Value.int .i64 i,v')∈E->v=v') (h1:∀p∈L,p∈E) (h2:∀p∈E,p∈L) (i:Int):QbF L i=QbF E i:=by
 cases h:QbF L i with
 | some v=>have hm:=h1 _ (Qjx h);obtain⟨u,hE⟩:=Ql6 hm;rw[hE,hu i v u hm (Qjx hE)]
 | none=>
  cases hE:QbF E i with
  | none=>rfl
  | some v=>obtain⟨u,hL⟩:=Ql6 (h2 _ (Qjx hE));rw[h] at hL;cases hL
structure Fent where
 key:Int
 b:UInt8
 r:List UInt8
 f:FuncId
def Fent.read (d:Fent):Lit×DataW (List UInt8):=(.int .i64 d.key,.agg [.held (d.b::d.r)])
def Fent.ent (d:Fent):Value×Value:=(.int .i64 d.key,.agg #[.func (.func d.f) #[] #[]])
def QwN {P:Program} {W:World} {fuel:Nat} {t k e:TypeId} {fld:Field} {ps rs:Array TypeId} {va:Bool} {cs:List Value} {D:List Fent} {p:List MemPlace}
  (ht:P.underlying t=some (.map k e)) (hk:P.underlying k=some (.int .i64)) (he:P.underlying e=some (.struct #[fld])) (ho:fld.offset=0) (hf:P.underlying fld.type=some (.func ps rs va)) (hce:P.cellsOf e=1) (hcf:P.cellsOf fld.type=1)
  (hone:∀d∈D,((range P.funcs.size).filter λf=>(P.funcs[f]?).any (·.name.toUTF8.data.toList==d.b::d.r))=[d.f])
  (h:DataW.trod (funcToken P) P W 0 (λ_=>true) true fuel t cs=some (.map (D.map Fent.read),p)):
  ∃b es clock,cs=[.map (some b)]/\W.heap[b]?=some (.map es clock)/\(∀q∈es.toList.map (λe=>(e.key,e.val)),q∈D.map Fent.ent)/\∀q∈D.map Fent.ent,q∈es.toList.map (λe=>(e.key,e.val)):=by
 rcases open_map ht h with⟨_,hx⟩ | ⟨b,es,clock,n,rfl,hcs,hb,_,F,hx⟩
 ·cases (Zu Prod.fst hx:(_:DataW _)=_)
 have hx1:=Zu Prod.fst hx;simp only[DataW.map.injEq] at hx1;have hperm:=sorted_perm (es.toList.map (rg P k (elemAt (funcToken P) P W 0 (λ_=>true) true n e)));rw[<-hx1] at hperm;have each:∀x∈es.toList,∀d∈D,rg P k (elemAt (funcToken P) P W 0 (λ_=>true) true n e) x=d.read->(x.key,x.val)=d.ent:=by
  intro x hxm d hd hrg;obtain⟨y,hy⟩:=F.reads x hxm;rw[rg_of hy] at hrg;subst hrg;have h1:=rd_key hy;obtain⟨z,h2,h3⟩:=rd_val hy;have hkey:x.key=.int .i64 d.key:=by
   rw[keyOf,hk] at h1;simp only[mapKey,hk] at h1
   cases hkx:x.key with
   | int q m=>rw[hkx] at h1;simp only[Fent.read,Option.ite_none_right_eq_some,ZB,Lit.int.injEq,true_and] at h1;rw[h1.1.1,h1.2]
   | _=>rw[hkx] at h1;cases h1
  have hval:x.val=.agg #[.func (.func d.f) #[] #[]]:=by
   unfold elemAt at h2;split at h2
   ·rename_i hform
    cases hvx:x.val with
    | agg vs=>
     rw[hvx] at hform h2;simp only[Value.formed,he,hce,Ye] at hform;obtain⟨xs,m,rfl,hz,_,hxl,hel⟩:=DataW.trod_struct he h2;have h0:=hel 0 fld rfl;rw[ho,hcf] at h0;obtain⟨v,rfl⟩:∃v,vs=#[v]:=by
      obtain⟨l⟩:=vs
      match l,hform with
      | [v],_=>exact⟨v,rfl⟩
     match xs,hxl,hz,h0 with
     | [x0],_,hz,h0=>have h0':DataW.trod (funcToken P) P W 0 (λ_=>true) true m fld.type [v]=some x0:=h0;subst hz;simp only[Fent.read,Yf,Yi,DataW.agg.injEq,List.cons.injEq,and_true] at h3;have:x0=(.held (d.b::d.r),x0.2):=Prod.ext h3.symm rfl;rw[this] at h0';rw[func_of_trod hf (hone d hd) h0']
    | _=>rw[hvx] at hform;simp[Value.formed,he] at hform
   ·cases h2
  rw[hkey,hval];rfl
 refine⟨b,es,clock,hcs,hb,λq hq=>?_,λq hq=>?_⟩
 ·obtain⟨x,hxm,rfl⟩:=ZM.1 hq;have hm:=(hperm.mem_iff).2 (mem_map_of_mem (f:=rg P k (elemAt (funcToken P) P W 0 (λ_=>true) true n e)) hxm);obtain⟨d,hd,hdr⟩:=ZM.1 hm;exact ZM.2 ⟨d,hd,(each x hxm d hd hdr.symm).symm⟩
 ·obtain⟨d,hd,rfl⟩:=ZM.1 hq;obtain⟨x,hxm,hdr⟩:=ZM.1 ((hperm.mem_iff).1 (mem_map_of_mem (f:=Fent.read) hd));exact ZM.2 ⟨x,hxm,each x hxm d hd hdr⟩
def Qsg {L E:List (Value×Value)} (hE:QjY E=true) (h:∀p∈L,p∈E):QjY L=true:=Zs.2 λp hp=>Zs.1 hE p (h p hp)
def QsH {P:Program} {W:World} {name:String} {g b:Nat} {cs:Array Value} {E:List (Value×Value)} {es:Array MapEntry} {clock:Nat} (hg:P.globalNamed name=some g) (h:W.var? P name=some cs) (hcs:cs.toList=[.map (some b)]) (hb:W.heap[b]?=some (.map es clock))
  (hE:QjY E=true) (hu:∀i v v',(Value.int .i64 i,v)∈E->(Value.int .i64 i,v')∈E->v=v') (h1:∀q∈es.toList.map (λe=>(e.key,e.val)),q∈E) (h2:∀q∈E,q∈es.toList.map (λe=>(e.key,e.val))):
  free (λ_=>False) W g/\∃cur e fz,W.heap[g]?=some (.cells cur e fz)/\QW [QkA E] (free (λ_=>False) W) W cur.toList:=by
 have hc:QW [QkA E] (free (λ_=>False) W) W cs.toList:=by rw[hcs];refine .cons ⟨b,es,clock,rfl,⟨?_,λf=>f⟩,hb,Qsg hE h1,QtQ hu h1 h2⟩ .nil;refine Nat.lt_of_not_le λhle=>?_;rw[Array.getElem?_eq_none hle] at hb;cases hb
 exact Qkt hg (cs:=cs.toList) (by simpa using h) hc

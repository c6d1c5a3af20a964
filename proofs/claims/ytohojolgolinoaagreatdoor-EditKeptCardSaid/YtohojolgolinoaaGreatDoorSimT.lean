/- What the row's condition on listed variables gives. No condition. -/
import Derived.Test.YtohojolgolinoaaGreatDoorSimL
import Derived.ProofKit
import Derived.OpenShut
import Derived.LaidMore
import Derived.Lib.LaidTab
import Derived.WideKeyElems2
set_option linter.all false
open List
namespace Go.Sim
open Go.ChangeShapes Go.WideShapes Go.WideElems
variable {P:Program} {W:World} {w:World} {cs:List Value} {E:List (Value×Value)} {fuel:Nat}
def nB {a:String} {g:Nat} {cs:Array Value} (d:P.globalNamed a=some g) (h:W.var? P a=some cs):∃t b,W.heap[g]?=some (.cells cs t b):=by
 simp only[World.var?,d,Za] at h;split at h
 ·rename_i c t b e;cases h;exact⟨t,b,e⟩
 ·cases h
def iF {H:Type} {enc:TypeId×Value->H} {a:Nat} {k:Nat->Bool} {b:Bool} {t e:TypeId} {n:Nat} {zs:List Str} {p:List MemPlace} (ht:P.underlying t=some (.array n e)) (l:P.underlying e=some .string) (f:P.cellsOf e=1) (g:P.cellsOf t=n) (h:DataW.trod enc P w a k b fuel t cs=some (.agg (zs.map λz=>.lit (.string z)),p)):cs=zs.map λz=>Value.string (sB z):=by
 obtain⟨xs,m,rfl,hx,hl,u,c⟩:=DataW.trod_array ht h;simp only[f,Nat.mul_one,g] at c hl;have d:xs.map (·.1)=zs.map λz=>(DataW.lit (.string z):DataW H):=by have:=ZU Prod.fst hx;simpa using this.symm
 have o:zs.length=n:=by have:=ZU length d;simp at this;omega
 apply ext_getElem?;intro i;by_cases hi:i<n
 ·have hf:=c i hi;rw[Zd om] at hf;have⟨s,hc,q,_⟩:=DataW.trod_string l hf;have r:cs[i]?=some (.string s):=by
   have:=ZU (·[0]?) hc;simpa[getElem?_take,getElem?_drop] using this
  have j:(xs.map (·.1))[i]?=some (DataW.lit (.string s.data.toList):DataW H):=by rw[Yc,Zd om,q];rfl
  rw[d,Yc,Zd om] at j;simp only[Yb,ZQ,DataW.lit.injEq,Lit.string.injEq] at j;rw[r,Yc,Zd om,j];rfl
 ·rw[getElem?_eq_none om,getElem?_eq_none so]
def Ja {a:String} {g:Nat} {Ts:List Ty} (i:P.globalNamed a=some g) (h:W.var? P a=some cs.toArray) (hc:QW Ts (free (λ_=>False) W) W cs):
  free (λ_=>False) W g/\∃cur e b,W.heap[g]?=some (.cells cur e b)/\QW Ts (free (λ_=>False) W) W cur.toList:=by
 have⟨t,b,c⟩:=nB i h;refine⟨⟨?_,λf=>f⟩,_,t,b,c,hc⟩;refine Nat.lt_of_not_le λd=>?_;rw[Array.getElem?_eq_none d] at c;cases c
def Px {F:Blk} {k:IntKind} (zs:Lz):QW (zs.flatMap (rInt k).cs) F w (zs.map λz=>Value.int k z):=by
 induction zs with
 | nil=>exact .nil
 | cons z zs a=>exact .cons rfl a
def iI {F:Blk} (zs:List Str):QW (zs.flatMap rS.cs) F w (zs.map λz=>Value.string (sB z)):=by
 induction zs with
 | nil=>exact .nil
 | cons z zs a=>exact .cons rfl a
def Ju:∀{L:List (Value×Value)} {i:Int} {v:Value},A3 L i=some v->(Value.int .i64 i,v)∈L
 | [],_,_,h=>by cases h
 | (a,b)::L,i,v,h=>by
  unfold A3 at h;split at h
  ·cases h
  ·rename_i k u c e;cases e;split at h
   ·rename_i e;subst e;cases h;exact Zs
   ·exact ZE _ (Ju h)
  ·rename_i e;cases e;exact ZE _ (Ju h)
def nC {a b:Value} {L:List (Value×Value)} {i:Int} (h:a≠.int .i64 i):A3 ((a,b)::L) i=A3 L i:=by
 cases a with
 | int k n=>
  cases k
  case i64=>exact Zb λe=>h (by rw[e])
  all_goals rfl
 | _=>rfl
def RT:∀{L:List (Value×Value)} {i:Int} {v:Value},(Value.int .i64 i,v)∈L->∃u,A3 L i=some u
 | (a,b)::L,i,v,h=>by
  by_cases ha:a=.int .i64 i
  ·exact⟨b,by rw[ha];exact Zc rfl⟩
  ·rw[nC ha];rcases Zp.1 h with h | h
   ·exact (ha (ZU Prod.fst h).symm).elim
   ·exact RT h
def nD {L:List (Value×Value)} (hu:∀i v v',(Value.int .i64 i,v)∈E->(Value.int .i64 i,v')∈E->v=v') (c:∀p∈L,p∈E) (d:∀p∈E,p∈L) (i:Int):A3 L i=A3 E i:=by
 cases h:A3 L i with
 | some v=>have hm:=c _ (Ju h);have⟨u,a⟩:=RT hm;rw[a,hu i v u hm (Ju a)]
 | none=>
  cases a:A3 E i with
  | none=>rfl
  | some v=>have⟨u,b⟩:=RT (d _ (Ju a));rw[h] at b;cases b
structure Fent where
 key:Int
 b:UInt8
 r:List UInt8
 f:FuncId
def Fent.read (d:Fent):Lit×DataW (List UInt8):=(.int .i64 d.key,.agg [.held (d.b::d.r)])
def Fent.ent (d:Fent):Value×Value:=(.int .i64 d.key,.agg #[.func (.func d.f) #[] #[]])
def iG {t k e:TypeId} {j:Field} {ps rs:Array TypeId} {va:Bool} {D:List Fent} {p:List MemPlace} (ht:P.underlying t=some (.map k e)) (Y:P.underlying k=some (.int .i64)) (Q:P.underlying e=some (.struct #[j])) (ho:j.offset=0) (hf:P.underlying j.type=some (.func ps rs va)) (R:P.cellsOf e=1) (S:P.cellsOf j.type=1) (B:∀d∈D,((range P.funcs.size).filter λf=>(P.funcs[f]?).any (·.name.toUTF8.data.toList==d.b::d.r))=[d.f]) (h:DataW.trod (funcToken P) P W 0 (λ_=>true) true fuel t cs=some (.map (D.map Fent.read),p)):
  ∃b s c,cs=[.map (some b)]/\W.heap[b]?=some (.map s c)/\(∀q∈s.toList.map (λe=>(e.key,e.val)),q∈D.map Fent.ent)/\∀q∈D.map Fent.ent,q∈s.toList.map (λe=>(e.key,e.val)):=by
 rcases open_map ht h with⟨_,hx⟩ | ⟨b,s,c,n,rfl,T,hb,_,F,hx⟩
 ·cases (ZU Prod.fst hx:(_:DataW _)=_)
 have C:=ZU Prod.fst hx;simp only[DataW.map.injEq] at C;have g:=sorted_perm (s.toList.map (rg P k (elemAt (funcToken P) P W 0 (λ_=>true) true n e)));rw[<-C] at g;have o:∀x∈s.toList,∀d∈D,rg P k (elemAt (funcToken P) P W 0 (λ_=>true) true n e) x=d.read->(x.key,x.val)=d.ent:=by
  intro x i d u H;have⟨y,hy⟩:=F.reads x i;rw[rg_of hy] at H;subst H;have r:=rd_key hy;have⟨z,I,Z⟩:=rd_val hy;have K:x.key=.int .i64 d.key:=by
   rw[keyOf,Y] at r;simp only[mapKey,Y] at r
   cases L:x.key with
   | int q m=>rw[L] at r;simp only[Fent.read,Option.ite_none_right_eq_some,ZQ,Lit.int.injEq,true_and] at r;rw[r.1.1,r.2]
   | _=>rw[L] at r;cases r
  have M:x.val=.agg #[.func (.func d.f) #[] #[]]:=by
   unfold elemAt at I;split at I
   ·rename_i a
    cases N:x.val with
    | agg vs=>
     rw[N] at a I;simp only[Value.formed,Q,R,Yj] at a;obtain⟨xs,m,rfl,hz,_,U,V⟩:=DataW.trod_struct Q I;have h0:=V 0 j rfl;rw[ho,S] at h0;obtain⟨v,rfl⟩:∃v,vs=#[v]:=by
      have⟨l⟩:=vs
      match l,a with
      | [v],_=>exact⟨v,rfl⟩
     match xs,U,hz,h0 with
     | [x0],_,hz,h0=>have O:DataW.trod (funcToken P) P W 0 (λ_=>true) true m j.type [v]=some x0:=h0;subst hz;simp only[Fent.read,Ys,Yy,DataW.agg.injEq,List.cons.injEq,and_true] at Z;have:x0=(.held (d.b::d.r),x0.2):=Prod.ext Z.symm rfl;rw[this] at O;rw[func_of_trod hf (B d u) O]
    | _=>rw[N] at a;simp[Value.formed,Q] at a
   ·cases I
  rw[K,M];rfl
 refine⟨b,s,c,T,hb,λq X=>?_,λq X=>?_⟩
 ·obtain⟨x,i,rfl⟩:=ZR.1 X;have hm:=(g.mem_iff).2 (mem_map_of_mem (f:=rg P k (elemAt (funcToken P) P W 0 (λ_=>true) true n e)) i);have⟨d,u,A⟩:=ZR.1 hm;exact ZR.2 ⟨d,u,(o x i d u A.symm).symm⟩
 ·obtain⟨d,u,rfl⟩:=ZR.1 X;have⟨x,i,A⟩:=ZR.1 ((g.mem_iff).1 (mem_map_of_mem (f:=Fent.read) u));exact ZR.2 ⟨x,i,o x i d u A⟩
def nE {L:List (Value×Value)} (a:IA E=true) (h:∀p∈L,p∈E):IA L=true:=ZD.2 λp hp=>ZD.1 a p (h p hp)
def iH {c:String} {g b:Nat} {cs:Array Value} {d:Array MapEntry} {a:Nat} (m:P.globalNamed c=some g) (h:W.var? P c=some cs) (j:cs.toList=[.map (some b)]) (hb:W.heap[b]?=some (.map d a)) (n:IA E=true) (hu:∀i v v',(Value.int .i64 i,v)∈E->(Value.int .i64 i,v')∈E->v=v') (l:∀q∈d.toList.map (λe=>(e.key,e.val)),q∈E) (o:∀q∈E,q∈d.toList.map (λe=>(e.key,e.val))):
  free (λ_=>False) W g/\∃cur e p,W.heap[g]?=some (.cells cur e p)/\QW [G3 E] (free (λ_=>False) W) W cur.toList:=by
 have hc:QW [G3 E] (free (λ_=>False) W) W cs.toList:=by rw[j];refine .cons ⟨b,d,a,rfl,⟨?_,λf=>f⟩,hb,nE n l,nD hu l o⟩ .nil;refine Nat.lt_of_not_le λk=>?_;rw[Array.getElem?_eq_none k] at hb;cases hb
 exact Ja m (cs:=cs.toList) (sa h) hc

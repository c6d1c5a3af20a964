/- slices.Sort at []int. No condition. -/
import Derived.Shelf.Slices.In.SortNone
import Derived.Sort.OwnSortedInts
import Derived.Sort.EveryDepth
import Derived.Test.YtlajingmjmnfgaaGreatDoorSimG
import Derived.Test.YtlajingmjmnfgaaGreatDoorLibS
set_option linter.all false
open List Go.Proofs.Tryz
namespace Go.Proofs.YtlajingmjmnfgaaGreatDoor
open Go.Sim Go.RowKit Go.Sort
def Qbo (xs:List Int):List Int:=xs.mergeSort λx y=>decide (x<=y)
def QdT (xs:List Int):Option (List Int):=if xs.length<4611686018427387904 then some (Qbo xs) else none
def QmE {F:Blk} {w:World}:∀{zs:List Int} {us:List Value},QS (zs.flatMap rI.cs) F w us->us=zs.map (Value.int .i64):=by
 intro zs us h;have e:zs.flatMap rI.cs=zs.map λz=>tv (.int .i64 z):=map_eq_flatMap.symm;rw[e] at h;refine ext_getElem (by simpa using h.1) λj h1 h2=>?_;have h2':j<zs.length:=by simpa using h2
 have:=h.2 j (tv (.int .i64 zs[j])) us[j] (by simp[h2']) (by simp[h1]);have:us[j]=Value.int .i64 zs[j]:=this;simp[this]
def QmF {F:Blk} {w:World} (zs:List Int):QS (zs.flatMap rI.cs) F w (zs.map (Value.int .i64)):=by have e:zs.flatMap rI.cs=zs.map λz=>tv (.int .i64 z):=map_eq_flatMap.symm;rw[e];refine⟨by simp,λj T u hT hu=>?_⟩;simp only[Ym,YB] at hT hu;obtain⟨z,hz,rfl⟩:=hT;obtain⟨z',hz',rfl⟩:=hu;rw[hz] at hz';cases hz';rfl
def QkC {F:Blk} {w:World}:QS [] F w []:=⟨rfl,λj T u h _=>by simp at h⟩
def Qlv {v:Value} {xs r:List Int} (h:QdT xs=some r):FnOk prog 38 [tv v] [own rI 3 xs v] (λ_=>[own rI 3 r v]) (λ_=>ttup []):=by
 unfold QdT at h;split at h
 case isFalse=>cases h
 rename_i hl;obtain rfl:=Zu h;intro M w vs hM hE hap hc;obtain⟨hg,hfp⟩:=hE _ (Zh.2 rfl);have hvs:vs=[v]:=by
  match vs,hc.1 with
  | [x],_=>have hx:=hc.2 0 _ x rfl rfl;have:x=v:=hx;rw[this]
 subst hvs;have hlen:(Qbo xs).length=xs.length:=by simp[Qbo]
 rcases QaP hg with⟨hv,hx⟩ | ⟨b,cap,cur,hv,hb,h1,h2,h3,h4⟩
 ·subst hx hv;refine Calls.mono (Any.slices_Sort_int_none QsU none 0 w) ?_;rintro en w' ⟨rfl,rfl⟩;refine⟨undef,_,rfl,⟨rfl,rfl,rfl,Zx _,λ_ _ _=>rfl⟩,⟨pairwise_singleton _ _,?_,?_⟩,⟨[],rfl,QkC⟩⟩
  ·intro A hA k hk;rw[Zh] at hA;subst hA;cases hk
  ·intro A hA;rw[Zh] at hA;subst hA;exact⟨[],⟨by simp[Qbo],.inl ⟨rfl,by simp[Qbo]⟩⟩,by simpa[Qbo] using QkC⟩
 ·subst hv;have hbl:b<w.heap.size:=(Array.getElem?_eq_some_iff.1 hb).1;have ht:=QmE h4;simp only[Nat.mul_one] at ht h3;have hH:Holds (Value.int .i64) w b 0 xs.toArray:=holds_of_blockI hb ht;refine Calls.mono (calls_of_every_depth λD=>AnyS.slices_Sort_int_alone QsU D b 0 cap xs w hH hbl hl) ?_;rintro en w' ⟨rfl,n,os,rfl⟩;have hgb:=grownBy_sortedI (w:=w) (g:=b) (n:=n) (os:=os) (Qbo xs).toArray;have hb':=heap_sortedI (n:=n) (os:=os) (Qbo xs).toArray hb;refine⟨undef,_,rfl,⟨rfl,rfl,rfl,by simp,λk hk hn=>?_⟩,⟨pairwise_singleton _ _,?_,?_⟩,⟨[],rfl,QkC⟩⟩
  ·have hne:k≠b:=λe=>hn ⟨_,Zh.2 rfl,by subst e;rfl⟩;rw[show (grow (putRow (Value.int .i64) (Sort.ahead w n) b 0 (xs.mergeSort λx y=>decide (x<=y)).toArray) os).heap[k]?=(putRow (Value.int .i64) (Sort.ahead w n) b 0 (xs.mergeSort λx y=>decide (x<=y)).toArray).heap[k]? from heap_grow_old _ _ (by simpa using hk)];simp[putRow,mapBlock,Sort.ahead,Array.getElem?_modify,Ne.symm hne]
  ·intro A hA k hk;rw[Zh] at hA;subst hA;have hk':Value.ownBlock (.slice (some ⟨b,0,none⟩) xs.length cap)=some k:=hk;have:b=k:=by simpa[Value.ownBlock] using hk'
   subst this;exact⟨.inl ⟨_,Zh.2 rfl,hk⟩,by simpa using ZK hbl (Nat.le_add_right _ _)⟩
  ·intro A hA;rw[Zh] at hA;subst hA;have hcells:QS ((Qbo xs).flatMap rI.cs) (free (next M [own rI 3 xs (.slice (some ⟨b,0,none⟩) xs.length cap)] [own rI 3 (Qbo xs) (.slice (some ⟨b,0,none⟩) xs.length cap)]) (grow (putRow (Value.int .i64) (Sort.ahead w n) b 0 (Qbo xs).toArray) os)) (grow (putRow (Value.int .i64) (Sort.ahead w n) b 0 (Qbo xs).toArray) os) ((putCells (Value.int .i64) 0 (Qbo xs).toArray cur).toList.take ((Qbo xs).length * 1)):=by
    rw[Nat.mul_one,take_putCellsI cur (Qbo xs) (by omega)];exact QmF _
   have:=Qfq (R:=rI) (e:=3) hb' (by omega) h2 (by simp[putCells,h3]) hcells;rw[hlen] at this;exact this

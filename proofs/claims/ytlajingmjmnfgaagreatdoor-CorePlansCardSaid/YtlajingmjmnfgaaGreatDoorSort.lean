/- slices.Sort at []int, out of the kit's contract, as a row that the call owns. No condition. -/
import Derived.Shelf.Slices.In.SortNone
import Derived.Sort.OwnSortedInts
import Derived.Sort.EveryDepth
import Derived.Test.YtlajingmjmnfgaaGreatDoorSimG
import Derived.Test.YtlajingmjmnfgaaGreatDoorLibS
set_option linter.all false
open List Go.Proofs.Tryz
namespace Go.Proofs.YtlajingmjmnfgaaGreatDoor
open Go.Sim Go.RowKit Go.Sort
def Qbk (xs:List Int):List Int:=xs.mergeSort fun x y=>decide (x≤y)
def QdJ (xs:List Int):Option (List Int):=if xs.length<4611686018427387904 then some (Qbk xs) else none
def QmD {F:Blk} {w:World}:∀{zs:List Int} {us:List Value},QQ (zs.flatMap rI.cs) F w us→us=zs.map (Value.int .i64):=by
 intro zs us h;have e:zs.flatMap rI.cs=zs.map fun z=>tv (.int .i64 z):=map_eq_flatMap.symm;rw[e] at h;refine ext_getElem (by simpa using h.1) fun j h1 h2=>?_;have h2':j<zs.length:=by simpa using h2
 have:=h.2 j (tv (.int .i64 zs[j])) us[j] (by simp[h2']) (by simp[h1]);have:us[j]=Value.int .i64 zs[j]:=this;simp[this]
def QmE {F:Blk} {w:World} (zs:List Int):QQ (zs.flatMap rI.cs) F w (zs.map (Value.int .i64)):=by have e:zs.flatMap rI.cs=zs.map fun z=>tv (.int .i64 z):=map_eq_flatMap.symm;rw[e];refine⟨by simp,fun j T u hT hu=>?_⟩;simp only[ZJ,Yr] at hT hu;obtain⟨z,hz,rfl⟩:=hT;obtain⟨z',hz',rfl⟩:=hu;rw[hz] at hz';cases hz';rfl
def Qkw {F:Blk} {w:World}:QQ [] F w []:=⟨rfl,fun j T u h _=>by simp at h⟩
def Qlm {v:Value} {xs r:List Int} (h:QdJ xs=some r):FnOk prog 38 [tv v] [own rI 3 xs v] (fun _=>[own rI 3 r v]) (fun _=>ttup []):=by
 unfold QdJ at h;split at h
 case isFalse=>cases h
 rename_i hl;obtain rfl:=Zs h;intro M w vs hM hE hap hc;obtain⟨hg,hfp⟩:=hE _ (Ze.2 rfl);have hvs:vs=[v]:=by
  match vs,hc.1 with
  | [x],_=>have hx:=hc.2 0 _ x rfl rfl;have:x=v:=hx;rw[this]
 subst hvs;have hlen:(Qbk xs).length=xs.length:=by simp[Qbk]
 rcases QaS hg with⟨hv,hx⟩ | ⟨b,cap,cur,hv,hb,h1,h2,h3,h4⟩
 ·subst hx hv;refine Calls.mono (Any.slices_Sort_int_none Qti none 0 w) ?_;rintro en w' ⟨rfl,rfl⟩;refine⟨undef,_,rfl,⟨rfl,rfl,rfl,Zx _,fun _ _ _=>rfl⟩,⟨pairwise_singleton _ _,?_,?_⟩,⟨[],rfl,Qkw⟩⟩
  ·intro A hA k hk;rw[Ze] at hA;subst hA;cases hk
  ·intro A hA;rw[Ze] at hA;subst hA;exact⟨[],⟨by simp[Qbk],.inl ⟨rfl,by simp[Qbk]⟩⟩,by simpa[Qbk] using Qkw⟩
 ·subst hv;have hbl:b<w.heap.size:=(Array.getElem?_eq_some_iff.1 hb).1;have ht:=QmD h4;simp only[Nat.mul_one] at ht h3;have hH:Holds (Value.int .i64) w b 0 xs.toArray:=holds_of_blockI hb ht;refine Calls.mono (calls_of_every_depth fun D=>AnyS.slices_Sort_int_alone Qti D b 0 cap xs w hH hbl hl) ?_;rintro en w' ⟨rfl,n,os,rfl⟩;have hgb:=grownBy_sortedI (w:=w) (g:=b) (n:=n) (os:=os) (Qbk xs).toArray;have hb':=heap_sortedI (n:=n) (os:=os) (Qbk xs).toArray hb;refine⟨undef,_,rfl,⟨rfl,rfl,rfl,by simp,fun k hk hn=>?_⟩,⟨pairwise_singleton _ _,?_,?_⟩,⟨[],rfl,Qkw⟩⟩
  ·have hne:k≠b:=fun e=>hn ⟨_,Ze.2 rfl,by subst e;rfl⟩;rw[show (grow (putRow (Value.int .i64) (Sort.ahead w n) b 0 (xs.mergeSort fun x y=>decide (x≤y)).toArray) os).heap[k]?=(putRow (Value.int .i64) (Sort.ahead w n) b 0 (xs.mergeSort fun x y=>decide (x≤y)).toArray).heap[k]? from heap_grow_old _ _ (by simpa using hk)];simp[putRow,mapBlock,Sort.ahead,Array.getElem?_modify,Ne.symm hne]
  ·intro A hA k hk;rw[Ze] at hA;subst hA;have hk':Value.ownBlock (.slice (some ⟨b,0,none⟩) xs.length cap)=some k:=hk;have:b=k:=by simpa[Value.ownBlock] using hk'
   subst this;exact⟨.inl ⟨_,Ze.2 rfl,hk⟩,by simpa using ZR hbl (Nat.le_add_right _ _)⟩
  ·intro A hA;rw[Ze] at hA;subst hA;have hcells:QQ ((Qbk xs).flatMap rI.cs) (free (next M [own rI 3 xs (.slice (some ⟨b,0,none⟩) xs.length cap)] [own rI 3 (Qbk xs) (.slice (some ⟨b,0,none⟩) xs.length cap)]) (grow (putRow (Value.int .i64) (Sort.ahead w n) b 0 (Qbk xs).toArray) os)) (grow (putRow (Value.int .i64) (Sort.ahead w n) b 0 (Qbk xs).toArray) os) ((putCells (Value.int .i64) 0 (Qbk xs).toArray cur).toList.take ((Qbk xs).length * 1)):=by
    rw[Nat.mul_one,take_putCellsI cur (Qbk xs) (by omega)];exact QmE _
   have:=QfH (R:=rI) (e:=3) hb' (by omega) h2 (by simp[putCells,h3]) hcells;rw[hlen] at this;exact this

/- slices.Delete at []int. No condition. -/
import Derived.Shelf.Slices.Delete
import Derived.Test.YtlajingmjmnfgaaGreatDoorSort
import Derived.Test.YtlajingmjmnfgaaGreatDoorSimL
set_option linter.all false
open List Go.Proofs.Tryz
namespace Go.Proofs.YtlajingmjmnfgaaGreatDoor
open Go.Sim Go.RowKit Go.Sort
theorem _root_.Go.Sim.FnOk.roE {α:Type} {R:Rep α} {P:Program} {e:TypeId} {f:FuncId} {Ts:List Ty} {E:List Atom} {xs:List α} {T:Value->Ty} {T':Ty} (h:FnOk P f Ts E (λv=>[own R e xs v]) T) (hT:∀x F w v,(tsl R xs).ok F w x->(T x).ok F w v->T'.ok F w v):FnOk P f Ts E (λ_=>[]) (λ_=>T'):=by
 intro M w vs hM hE hap hc;refine Calls.mono (h M w vs hM hE hap hc) ?_;rintro en w' ⟨x,v,he,hg,hN,hty⟩;have hfp:=hN.place _ (Zh.2 rfl);have hok:=hN.ok _ (Zh.2 rfl);have hsub:∀k,free (next M E [own R e xs x]) w' k->free (next M E []) w' k:=by
  rintro k ⟨h1,h2⟩;refine⟨h1,λhm=>h2 ?_⟩;rcases hm with hm | hm
  ·exact .inl hm
  ·rw[Qe7] at hm;exact hm.elim
 have hfp':∀k,(own R e xs x).fp k->free (next M E []) w' k:=by
  intro k hk;refine⟨(hfp k hk).2,λhm=>?_⟩;rcases hm with⟨hm,hne⟩ | hm
  ·have:=hM k hm;rcases (hfp k hk).1 with h | h
   ·exact hne h
   ·omega
  ·rw[Qe7] at hm;exact hm
 have hsl:(tsl R xs).ok (free (next M E []) w') w' x:=QbP.own (x:=.const x) (Γ:=[]) (U:=[own R e xs x]) (R:=R) (e:=e) (xs:=xs) (v:=x) .k (by simp) _ _ w' ⟨#[],[]⟩ hsub (λA hA=>by simp at hA;subst hA;exact⟨hok,hfp'⟩) (λp hp=>by simp at hp);exact⟨undef,v,he,hg,Qfi,hT x _ _ _ hsl ((T x).keep hsub (λ_ _=>rfl) hty)⟩
def Qej (xs:List Int) (i j:Int):Option (List Int):=if 0<=i/\i<=j/\j<=xs.length/\0<xs.length then some (xs.take i.toNat++xs.drop j.toNat) else none
def QkD {v:Value} {xs r:List Int} {i j:Int} (h:Qej xs i j=some r):FnOk prog 46 [tv v,ti i,ti j] [own rI 3 xs v] (λx=>[own rI 3 r x]) (λx=>tv x):=by
 unfold Qej at h;split at h
 case isFalse=>cases h
 rename_i hl;obtain⟨hi,hij,hj,hpos⟩:=hl;obtain rfl:=Zu h;intro M w vs hM hE hap hc;obtain⟨hg,hfp⟩:=hE _ (Zh.2 rfl);obtain⟨i,rfl⟩:=Zy hi;obtain⟨j,rfl⟩:=Zy (Int.le_trans hi hij);simp only[Zq];have hij':i<=j:=by omega
 have hj':j<=xs.length:=by omega
 have hvs:vs=[v,.int .i64 i,.int .i64 j]:=by
  match vs,hc.1 with
  | [x,y,z],_=>have hx:x=v:=hc.2 0 _ x rfl rfl;have hy:y=.int .i64 i:=hc.2 1 _ y rfl rfl;have hz:z=.int .i64 j:=hc.2 2 _ z rfl rfl;rw[hx,hy,hz]
 subst hvs;rcases QaP hg with⟨hv,hx⟩ | ⟨b,cap,cur,hv,hb,h1,h2,h3,h4⟩
 ·subst hx;simp at hpos
 ·subst hv;have hbl:b<w.heap.size:=(Array.getElem?_eq_some_iff.1 hb).1;have ht:=QmE h4;simp only[Nat.mul_one] at ht h3;have hH:Holds (Value.int .i64) w b 0 xs.toArray:=holds_of_blockI hb ht;refine Calls.mono (Any.slices_Delete_int delLay b 0 cap i j xs w hH h1 (by simpa[maxLen] using h2) hij' hj') ?_;rintro en w' ⟨rfl,n,rfl⟩;have hlen:(xs.take i++xs.drop j).length=xs.length - (j - i):=by simp;omega
  generalize hts:xs.take i++xs.drop j++replicate (j - i) 0=ts;have htl:ts.length=xs.length:=by rw[<-hts];simp;omega
  have hb':=heap_sortedI (n:=n) (os:=#[]) ts.toArray hb;rw[grow_empty] at hb';refine⟨_,_,rfl,⟨rfl,rfl,rfl,by simp,λk hk hn=>?_⟩,⟨pairwise_singleton _ _,?_,?_⟩,rfl⟩
  ·have hne:k≠b:=λe=>hn ⟨_,Zh.2 rfl,by subst e;rfl⟩;simp[putRow,mapBlock,Sort.ahead,Array.getElem?_modify,Ne.symm hne]
  ·intro A hA k hk;rw[Zh] at hA;subst hA;have hk':Value.ownBlock (.slice (some ⟨b,0,none⟩) (xs.length - (j - i)) cap)=some k:=hk;have:b=k:=by simpa[Value.ownBlock] using hk'
   subst this;exact⟨.inl ⟨_,Zh.2 rfl,rfl⟩,by simpa using hbl⟩
  ·intro A hA;rw[Zh] at hA;subst hA;have hcells:∀F,QS ((xs.take i++xs.drop j).flatMap rI.cs) F (putRow (Value.int .i64) (Sort.ahead w n) b 0 ts.toArray) ((putCells (Value.int .i64) 0 ts.toArray cur).toList.take ((xs.take i++xs.drop j).length * 1)):=by
    intro F;have:=take_putCellsI cur ts (by omega);have h5:(putCells (Value.int .i64) 0 ts.toArray cur).toList.take (xs.take i++xs.drop j).length=(xs.take i++xs.drop j).map (Value.int .i64):=by have h6:=Ya (take (xs.take i++xs.drop j).length) this;rw[take_take,Nat.min_eq_left (by rw[hlen,htl];omega),<-hts,ZT (l₁:=xs.take i++xs.drop j),take_left' (by simp)] at h6;rw[<-hts];exact h6
    rw[Nat.mul_one,h5];exact QmF _
   have hh:=λF=>Qfq (F:=F) (R:=rI) (e:=3) hb' (by rw[hlen];omega) h2 (by simp[putCells,h3]) (hcells F);rw[hlen] at hh;exact hh _

/- Package core: what Why returns. No condition. -/
import Derived.Test.YtlajingmjmnfgaaGreatDoorCoD
import Derived.Test.YtlajingmjmnfgaaGreatDoorCtA
import Derived.Test.YtlajingmjmnfgaaGreatDoorCtI
set_option linter.all false
open List Go.IntKind
namespace Go.Proofs.YtlajingmjmnfgaaGreatDoor
open Go.Sim
theorem QuU {Y:List Int→Int→Option (List Int⊕List Int)} {f:List Nat→Nat→List Nat⊕List Nat}:∀{l:List Nat} (_:∀m∈l,∀s,s.length≤1000→(∀s',f s m=.inl s'→Y (ints s) (m:Int)=some (.inl (ints s')))∧(∀s',f s m=.inr s'→Y (ints s) (m:Int)=some (.inr (ints s')))) (_:∀m∈l,∀s s',s.length≤1000→f s m=.inl s'→s'.length≤1000) (s:List Nat),s.length≤1000→
  goS Y l (ints s)=some (.inl (ints (goZ f l s)))∨goS Y l (ints s)=some (.inr (ints (goZ f l s)))
 | [],_,_,s,_=>.inl rfl
 | m::l,h,h2,s,hs=>by
  obtain⟨h3,h4⟩:=h m (mem_cons_self ..) s hs
  rw[Qgz]
  unfold goZ
  cases hf:f s m with
  | inl s'=>
   rw[h3 s' hf]
   exact QuU (fun m hm=>h m (mem_cons_of_mem _ hm)) (fun m hm=>h2 m (mem_cons_of_mem _ hm)) s' (h2 m (mem_cons_self ..) s s' hs hf)
  | inr s'=>rw[h4 s' hf];exact .inr rfl
theorem QwK {x:Qa} (hc:QP x=[]) {R A:List Nat} (hR:∀c∈R,c≤1000) (hl:R.length≤1000) (hA:A.length≤1000):
  (Qo (fun (s1578:Int×List Int)=>((if (decide (s1578.1<((ints R).length:Int)))=true then (idx (ints R) s1578.1).bind fun t138=>(rm (s1578.2.length+[(i64.wrap (((Qa4 x).limits.length:Int)+t138))].length)).bind fun _=>(some (.inl ((i64.wrap (s1578.1+(1:Int))),(s1578.2++[(i64.wrap (((Qa4 x).limits.length:Int)+t138))])))) else (some (.inr s1578.2))):Option ((Int×List Int)⊕((List Int))))) ((0:Int),ints A))=some (ints (A++R.map fun c=>nLim x+c)):=by
 have hlen:(Qa4 x).limits.length=nLim x:=rfl
 have h300:=Qhu hc
 rw[hlen]
 refine (Qca R.length (fun n=>((n:Int),ints (A++(R.take n).map fun c=>nLim x+c))) (ints (A++R.map fun c=>nLim x+c)) (fun k hk=>?_) ?_) |>.trans rfl |> fun h=>by simpa using h
 ·have hcm:=hR _ (getElem_mem hk)
  have e1:(ints R)[k]'(by rw[QbE];exact hk)=((R[k]:Nat):Int):=by simp[ints]
  dsimp only
  unfold nAll at h300
  rw[QbE,if_pos (by simpa using hk),QY (by rw[QbE];exact hk),e1]
  simp only[Option.bind_some]
  rw[Qcj (by rw[QbE];simp;omega),QK hk (by omega),w64 (by omega) (by omega)]
  simp only[Option.bind_some]
  have e2:ints (A++(R.take (k+1)).map fun c=>nLim x+c)=ints (A++(R.take k).map fun c=>nLim x+c)++[(nLim x:Int)+(R[k]:Int)]:=by
   rw[take_succ_eq_append_getElem hk,map_append,←append_assoc,QpT (A++(R.take k).map fun c=>nLim x+c)]
   simp[ints]
  rw[e2]
 ·dsimp only
  rw[QbE,if_neg (by simp),take_length]
/-- What Why does for one set of kinds. -/
theorem QuV {x:Qa} (hc:QP x=[]) (h16:nLim x≤16) {K:Nat} (hK:K<2 ^ x.Kinds.length) {names:List Str} (hn:names.length=nAll x) {s:List Nat} (hs:s.length≤1000):
  goS (fun (s1393:List Int) (m1394:Int)=>((QbT m1394).bind fun t96=>(if (((!s1393.isEmpty)&&(decide ((i64.wrap (((ints (recP x K)).length:Int)+t96))≥(s1393.length:Int))))||(decide ((i64.wrap (((ints (recP x K)).length:Int)+t96))>(names.length:Int))))=true then (some (.inr s1393)) else (Qat (Qa4 x) (fun x0=>QdS x0 m1394) (fun x0=>QdT x0 (K:Int))).bind fun t115=>(if t115=true then (some (.inl s1393)) else (Qo (fun (s1551:Int×List Int)=>((if (decide (s1551.1<((Qa4 x).limits.length:Int)))=true then (nn s1551.1).bind fun _=>((if ((iand .u64 (ishr .u64 m1394 s1551.1) (1:Int))==(1:Int))=true then (rm (s1551.2.length+[s1551.1].length)).bind fun _=>(some (s1551.2++[s1551.1])) else (some s1551.2))).bind fun (p1605:List Int)=>(some (.inl ((i64.wrap (s1551.1+(1:Int))),p1605))) else (some (.inr s1551.2))):Option ((Int×List Int)⊕((List Int))))) ((0:Int),([]:List Int))).bind fun (p1574:(List Int))=>(Qo (fun (s1578:Int×List Int)=>((if (decide (s1578.1<((ints (recP x K)).length:Int)))=true then (idx (ints (recP x K)) s1578.1).bind fun t138=>(rm (s1578.2.length+[(i64.wrap (((Qa4 x).limits.length:Int)+t138))].length)).bind fun _=>(some (.inl ((i64.wrap (s1578.1+(1:Int))),(s1578.2++[(i64.wrap (((Qa4 x).limits.length:Int)+t138))])))) else (some (.inr s1578.2))):Option ((Int×List Int)⊕((List Int))))) ((0:Int),p1574)).bind fun (p1591:(List Int))=>(some (.inr p1591)))):Option ((List Int)⊕(List Int)))) (Qc0 (nLim x)) (ints s)=some (.inl (ints (goK x s K)))∨
  goS (fun (s1393:List Int) (m1394:Int)=>((QbT m1394).bind fun t96=>(if (((!s1393.isEmpty)&&(decide ((i64.wrap (((ints (recP x K)).length:Int)+t96))≥(s1393.length:Int))))||(decide ((i64.wrap (((ints (recP x K)).length:Int)+t96))>(names.length:Int))))=true then (some (.inr s1393)) else (Qat (Qa4 x) (fun x0=>QdS x0 m1394) (fun x0=>QdT x0 (K:Int))).bind fun t115=>(if t115=true then (some (.inl s1393)) else (Qo (fun (s1551:Int×List Int)=>((if (decide (s1551.1<((Qa4 x).limits.length:Int)))=true then (nn s1551.1).bind fun _=>((if ((iand .u64 (ishr .u64 m1394 s1551.1) (1:Int))==(1:Int))=true then (rm (s1551.2.length+[s1551.1].length)).bind fun _=>(some (s1551.2++[s1551.1])) else (some s1551.2))).bind fun (p1605:List Int)=>(some (.inl ((i64.wrap (s1551.1+(1:Int))),p1605))) else (some (.inr s1551.2))):Option ((Int×List Int)⊕((List Int))))) ((0:Int),([]:List Int))).bind fun (p1574:(List Int))=>(Qo (fun (s1578:Int×List Int)=>((if (decide (s1578.1<((ints (recP x K)).length:Int)))=true then (idx (ints (recP x K)) s1578.1).bind fun t138=>(rm (s1578.2.length+[(i64.wrap (((Qa4 x).limits.length:Int)+t138))].length)).bind fun _=>(some (.inl ((i64.wrap (s1578.1+(1:Int))),(s1578.2++[(i64.wrap (((Qa4 x).limits.length:Int)+t138))])))) else (some (.inr s1578.2))):Option ((Int×List Int)⊕((List Int))))) ((0:Int),p1574)).bind fun (p1591:(List Int))=>(some (.inr p1591)))):Option ((List Int)⊕(List Int)))) (Qc0 (nLim x)) (ints s)=some (.inr (ints (goK x s K))):=by
 have hk6:=(Qal hc).kinds
 have h300:=Qhu hc
 have hrl:=QwI hc K
 unfold goK
 refine QuU (f:=Qhj x K (recP x K)) (fun m hm s hs=>?_) (fun m hm s s' hs h=>?_) s hs
 ·have hm2:=(Qel h16).1 hm
  have hones:ones m≤16:=by
   rw[←Qev _ _ h16 hm2]
   have:=length_filter_le (fun i=>m.testBit i) (range (nLim x))
   rw[length_range] at this
   unfold setL;omega
  have hcond:((!(ints s).isEmpty)&&(decide ((i64.wrap (((ints (recP x K)).length:Int)+((ones m:Nat):Int)))≥((ints s).length:Int))))=(!s.isEmpty&&decide ((recP x K).length+ones m≥s.length)):=by
   rw[QhQ,QbE,QbE,w64 (by omega) (by omega)]
   congr 1
   rw[Bool.eq_iff_iff];simp;omega
  have hcond2:decide ((i64.wrap (((ints (recP x K)).length:Int)+((ones m:Nat):Int)))>(names.length:Int))=decide ((recP x K).length+ones m>nAll x):=by
   rw[QbE,w64 (by omega) (by omega),hn,Bool.eq_iff_iff];simp;omega
  have hposs:Qat (Qa4 x) (fun x0=>QdS x0 (m:Int)) (fun x0=>QdT x0 (K:Int))=some (Qdu x m K):=by
   refine (Qil (s:=Qa4 x) (n:=x.Kinds.length) rfl (Qh8 hc) (p:=fun i=>m.testBit i) (E:=fun k=>K.testBit k.toNat) (fun i hi=>?_) (fun k hk=>?_)).trans rfl
   ·have hi:i<nLim x:=hi
    unfold QdS
    rw[show nn (i:Int)=some () by unfold nn;rw[if_pos (by omega)]]
    simp only[Option.bind_some]
    rw[Qmi (Qkn h16 hm2) (by omega)]
   ·unfold QdT
    rw[show nn (k:Int)=some () by unfold nn;rw[if_pos (by omega)]]
    simp only[Option.bind_some]
    rw[Qmi (Qkn (by omega) hK) (by omega),Int.toNat_natCast]
  rw[Qq9 (Qkn h16 hm2)]
  simp only[Option.bind_some]
  rw[hcond,hcond2]
  unfold Qhj
  by_cases hstop:((!s.isEmpty&&decide ((recP x K).length+ones m≥s.length))||decide ((recP x K).length+ones m>nAll x))=true
  ·rw[if_pos hstop,if_pos hstop]
   exact⟨fun s' h=>(nomatch h),fun s' h=>by obtain rfl:=Sum.inr.inj h;rfl⟩
  ·rw[if_neg hstop,if_neg hstop,hposs]
   simp only[Option.bind_some]
   cases hpm:Qdu x m K with
   | true=>
    rw[if_pos rfl,if_pos rfl]
    exact⟨fun s' h=>by obtain rfl:=Sum.inl.inj h;rfl,fun s' h=>(nomatch h)⟩
   | false=>
    have hf:¬(false=true):=by decide
    rw[if_neg hf,if_neg hf,Qzb h16 hm2]
    simp only[Option.bind_some]
    have hgood:Qh9 x K:=by
     refine Classical.byContradiction fun hg=>?_
     have:∃k,k<x.Kinds.length∧K.testBit k=true∧cyc x k=[]:=Classical.byContradiction fun hn=>hg ⟨hK,fun k hk hb he=>hn ⟨k,hk,hb,he⟩⟩
     obtain⟨k,hk,hb,he⟩:=this
     have:=QpQ hk hb he
     apply hstop
     simp;omega
    have hrec:=QnP hgood.2
    have h1:∀c∈recP x K,c≤1000:=fun c hcm=>by
     rw[hrec] at hcm
     have:=QpN hc hcm
     unfold nAll at h300;omega
    have h2:(setL (nLim x) m).length≤1000:=by rw[Qev _ _ h16 hm2];omega
    rw[QwK hc h1 (by omega) h2]
    exact⟨fun s' h=>(nomatch h),fun s' h=>by obtain rfl:=Sum.inr.inj h;rfl⟩
 ·unfold Qhj at h
  split at h
  ·cases h
  ·split at h
   ·obtain rfl:=Sum.inl.inj h;exact hs
   ·cases h
theorem QpV {x:Qa} (hc:QP x=[]) (h16:nLim x≤16) {Y:List Int→Int→Option (List Int⊕List Int)} (hY:∀K:Nat,K<2 ^ x.Kinds.length→∀s:List Nat,s.length≤1000→Y (ints s) (K:Int)=some (.inl (ints (goK x s K)))):
  ∀(l P s:List Nat),(∀K∈l,K<2 ^ x.Kinds.length)→Qhk x P s→goS Y l (ints s)=some (.inl (ints (l.foldl (goK x) s)))
 | [],_,_,_,_=>rfl
 | K::l,P,s,hl,h=>by
  have h300:=Qhu hc
  have hlen:=h.len h16
  have hK:=hl K (mem_cons_self ..)
  rw[Qgz,hY K hK s (by omega)]
  exact QpV hc h16 hY l (P++[K]) _ (fun K hK=>hl K (mem_cons_of_mem _ hK)) (QpR hc h16 h hK)
def whyJ (x:Qa):List Nat:=(Qa2 (ints (Qdv x))).map Int.toNat
theorem Qib (x:Qa):ints (whyJ x)=Qa2 (ints (Qdv x)):=by
 unfold whyJ ints
 rw[map_map]
 have:∀z∈Qa2 (ints (Qdv x)),((fun (i:Nat)=>(i:Int)) ∘ Int.toNat) z=z:=fun z hz=>by
  have:=(Qfi (ints (Qdv x))).mem_iff.1 hz
  unfold ints at this
  obtain⟨i,_,rfl⟩:=mem_map.1 this
  rfl
 refine (map_congr_left this).trans ?_
 rw[map_id'];rfl
theorem QpW {x:Qa} {i:Nat}:i∈whyJ x↔i∈Qdv x:=by
 have h:∀(l:List Nat) (i:Nat),(i:Int)∈ints l↔i∈l:=fun l i=>by
  unfold ints
  rw[mem_map]
  constructor
  ·rintro ⟨j,hj,e⟩
   have:j=i:=by omega
   rw[←this];exact hj
  ·exact fun h=>⟨i,h,rfl⟩
 rw[←h (whyJ x),Qib,(Qfi _).mem_iff,h]
theorem QpX {x:Qa}:(whyJ x).length=(Qdv x).length:=by
 have:=(Qfi (ints (Qdv x))).length_eq
 rw[←Qib,QbE,QbE] at this
 exact this
theorem Qqw {x:Qa} (hn:(Qdv x).Nodup):(whyJ x).Pairwise (·< ·):=by
 have h1:=QiE (ints (Qdv x))
 have h2:(ints (Qdv x)).Nodup:=by
  unfold ints
  show Pairwise _ _
  rw[pairwise_map]
  exact hn.imp fun h e=>h (by omega)
 have h3:(Qa2 (ints (Qdv x))).Nodup:=(Qfi _).nodup_iff.2 h2
 have h4:(Qa2 (ints (Qdv x))).Pairwise (fun a b=>a<b):=(Pairwise.and h1 h3).imp fun⟨a,b⟩=>by omega
 rw[←Qib] at h4
 unfold ints at h4
 rw[pairwise_map] at h4
 exact h4.imp fun h=>by omega
/-- What Why returns. -/
def whyR (x:Qa):List Str×Int:=match QP x with
 | p::_=>([],p.Code)
 | []=>if nLim x>16 then ([],4) else if Qc1 x=true then ([],6) else ((whyJ x).map (QgY x),0)
theorem Qko {x:Qa} (hs:QeB x):QdH x=some (whyR x):=by
 unfold QdH whyR
 rw[Qpr hs]
 unfold Qmo
 cases hc:QP x with
 | cons p l=>
  have:=Qjl (x:=x) (p:=p) (by rw[hc];exact mem_cons_self ..)
  dsimp only[Option.bind_some]
  rw[if_pos (by simpa using this)]
 | nil=>
  have hv:=Qal hc
  have hk6:=hv.kinds
  have h300:=Qhu hc
  dsimp only[Option.bind_some]
  rw[if_neg (by simp),Qpu hs hc]
  simp only[Option.bind_some]
  have hlen:(Qa4 x).limits.length=nLim x:=rfl
  by_cases h16:nLim x>16
  ·rw[if_pos (decide_eq_true (by rw[hlen];omega)),if_pos h16]
  ·rw[if_neg (by rw[hlen];simp;omega),if_neg h16,Qme _ _ (by omega)]
   simp only[Option.bind_some]
   refine Qeu x.Kinds.length (fun n=>((n:Int),((range n).map fun k=>ints (cyc x k))++replicate (x.Kinds.length - n) ([]:List Int))) (cycs x) (by simp) (fun n hn'=>?_) ?_ ?_
   ·have hln:(((range n).map fun k=>ints (cyc x k))++replicate (x.Kinds.length - n) ([]:List Int)).length=x.Kinds.length:=by simp;omega
    dsimp only
    rw[length_replicate,if_pos (by simpa using hn'),QiO hc hn' (p:=fun _=>true) (fun j _=>rfl)]
    simp only[Option.bind_some]
    rw[QbL (by rw[hln];exact hn')]
    simp only[Option.bind_some]
    rw[QK hn' (by omega),set_append_right _ _ (by simp)]
    congr 3
    have e2:x.Kinds.length - n=(x.Kinds.length - (n+1))+1:=by omega
    rw[e2,replicate_succ,length_map,length_range,Nat.sub_self,set_cons_zero,range_succ,map_append,append_assoc];rfl
   ·dsimp only
    rw[length_replicate,if_neg (by simp),Nat.sub_self,replicate_zero,append_nil];rfl
   ·have hbase:Qat (Qa4 x) (fun x0=>QgO x0) (fun x0=>QfF x0 (cycs x))=some (Qc1 x):=by
     refine (Qil (s:=Qa4 x) (n:=x.Kinds.length) rfl (Qh8 hc) (p:=fun _=>true) (E:=fun k=>!(cycN x k fun _=>true).isEmpty) (fun i _=>rfl) (fun k hk=>?_)).trans rfl
     unfold QfF
     rw[QpU hk]
     simp only[Option.bind_some]
     rw[QhQ];rfl
    rw[hbase]
    simp only[Option.bind_some]
    cases hb:Qc1 x with
    | true=>rw[if_pos rfl,if_pos rfl]
    | false=>
     have hf:¬(false=true):=by decide
     rw[if_neg hf,if_neg hf,Qrb (by omega)]
     have hall:∀K∈Qc0 x.Kinds.length,K<2 ^ x.Kinds.length:=fun K hK=>(Qel (by omega)).1 hK
     have hW0:Qhk x [] []:=⟨fun _ K hK=>(by cases hK),fun h=>absurd rfl h⟩
     refine (congrArg (Option.bind · _) (QpV hc (by omega) (fun K hK s hs=>?_) (Qc0 x.Kinds.length) [] [] hall hW0)).trans ?_
     rotate_left
     ·simp only[Option.bind_some]
      obtain⟨K,m,hmin,hbest,hsz⟩:=QpS hc (by omega) hb
      have hlb:(Qdv x).length≤300:=by rw[hbest,QkS (by omega) hmin.bad.lt];omega
      have hin:∀i∈whyJ x,i<nLim x+(Qap x).length:=fun i hi=>by
       rw[QpW,hbest] at hi
       exact w_lt hc hi
      have e0:Qdb (ints (foldl (goK x) [] (Qc0 x.Kinds.length)))=some (ints (whyJ x)):=by
       unfold Qdb
       rw[Qib]
       have:(ints (Qdv x)).length<4611686018427387904:=by rw[QbE];omega
       exact if_pos this
      rw[e0]
      simp only[Option.bind_some]
      rw[Qpc (ints (whyJ x)) (fun i=>QgY x i.toNat) (fun k hk acc ha=>?_) (fun acc=>by rw[if_neg (by simp)])]
      ·simp only[Option.bind_some]
       congr 2
       unfold ints
       rw[map_map];rfl
      ·rw[QbE] at hk
       have e1:(ints (whyJ x))[k]'(by rw[QbE];exact hk)=(((whyJ x)[k]:Nat):Int):=by simp[ints]
       have h3:=hin _ (getElem_mem hk)
       have hwl:=QpX (x:=x)
       dsimp only
       rw[QbE,if_pos (by simpa using hk),QY (by rw[QbE];exact hk),e1]
       simp only[Option.bind_some]
       rw[QY (by rw[QgX];exact h3)]
       simp only[Option.bind_some]
       rw[Qcj (by simp;omega),QK hk (by omega),Int.toNat_natCast]
       simp only[Option.bind_some]
       congr 4
       unfold QgY
       rw[getD_eq_getElem?_getD,getElem?_eq_getElem (by rw[QgX];exact h3)];rfl
     ·rw[QwJ hc hK (names:=QcT x) (QgX x)]
      simp only[Option.bind_some]
      rw[Qrb (n:=(Qa4 x).limits.length) (by rw[hlen];omega)]
      rcases QuV hc (by omega) hK (names:=QcT x) (QgX x) hs with h | h
      ·exact (congrArg (fun r=>(Option.bind r _).bind _) h).trans rfl
      ·exact (congrArg (fun r=>(Option.bind r _).bind _) h).trans rfl
end Go.Proofs.YtlajingmjmnfgaaGreatDoor
namespace Go.Proofs.YtlajingmjmnfgaaGreatDoor
open Go.Sim
theorem Qro {α:Type} (l:List α) (d:α):sel l (fun _=>true) d=l:=by
 unfold sel
 have e:(range l.length).filter (fun _=>true)=range l.length:=filter_eq_self.2 fun _ _=>rfl
 rw[e]
 refine ext_getElem (by simp) fun i h1 h2=>?_
 simp[getD_eq_getElem?_getD,h2]
/-! All kinds -/
end Go.Proofs.YtlajingmjmnfgaaGreatDoor
namespace Go.Proofs.YtlajingmjmnfgaaGreatDoor
open Go.Sim
theorem QuW {n:Int} (h:-9999999≤n∧n≤9999999):(Lib.itoa n).length≤8:=by
 unfold Lib.itoa
 split
 ·have:=Qge 6 n.natAbs (by omega)
  rw[length_cons];omega
 ·have:=Qge 6 n.toNat (by omega)
  omega
/-- A short value. -/
def VT:AnyV→Prop
 | .int n=>-9999999≤n∧n≤9999999
 | .str s=>s.length≤12
theorem text_t {v:AnyV} (h:VT v):(QkJ v).length≤12:=by
 cases v with
 | int n=>have:=QuW h;show (Lib.itoa n).length≤12;omega
 | str s=>exact h
theorem toks_t {l:List AnyV} (h:∀v∈l,VT v):(toks l).length≤l.length * 13:=by
 induction l with
 | nil=>simp[toks]
 | cons v l ih=>
  have h1:=ih fun u hu=>h u (mem_cons_of_mem _ hu)
  have h2:=text_t (h v mem_cons_self)
  have e:toks (v::l)=(32::QkJ v)++toks l:=rfl
  rw[e,length_append,length_cons,length_cons]
  omega
theorem QiQ {w:Str} {l:List AnyV} (h:∀v∈l,VT v):(Qd2 w l).length≤w.length+1+l.length * 13:=by
 have:=toks_t h
 unfold Qd2
 rw[length_append,length_append,length_singleton];omega
theorem Qei {s:Str} (h:QX s=true):VT (.str s):=Qem h
theorem QiR {s:Str} (h:((s==[])||QX s)=true):VT (.str (QcG s)):=by
 unfold QcG
 by_cases hs:s=[]
 ·rw[if_pos hs];show ([45]:Str).length≤12;decide
 ·rw[if_neg hs]
  have:QX s=true:=by simpa[hs] using h
  exact Qei this
theorem Qbv {n:Int} (h:-9999999≤n∧n≤9999999):VT (.int n):=h
theorem QwL {f:Qb} (h:fieldS f=true) (hw3:f.Words.length≤3):(∀v∈Q4 f,VT v)∧(Q4 f).length≤8:=by
 unfold fieldS at h
 simp only[Bool.and_eq_true] at h
 obtain⟨⟨hn,_⟩,hp⟩:=h
 have hnv:=Qei hn
 unfold Qdt at hp
 by_cases c0:f.Kind=0
 ·rw[if_pos c0] at hp
  have e:Q4 f=[.str f.Name,.int f.Lo]:=by unfold Q4;rw[if_pos c0]
  refine⟨?_,by rw[e];simp⟩
  have:=QbD hp
  rw[e];simp only[mem_cons,not_mem_nil,or_false,forall_eq_or_imp,forall_eq]
  exact⟨hnv,Qbv (by omega)⟩
 rw[if_neg c0] at hp
 by_cases c1:f.Kind=1
 ·rw[if_pos c1] at hp
  simp only[Bool.and_eq_true] at hp
  have e:Q4 f=[.str f.Name,.str (QcG f.Of),.int f.Lo,.int f.Hi]:=by unfold Q4;simp[c1]
  have:=Qcg hp.2
  refine⟨?_,by rw[e];simp⟩
  rw[e];simp only[mem_cons,not_mem_nil,or_false,forall_eq_or_imp,forall_eq]
  exact⟨hnv,QiR (by rw[hp.1];simp),Qbv (by omega),Qbv (by omega)⟩
 rw[if_neg c1] at hp
 by_cases c2:f.Kind=2
 ·rw[if_pos c2] at hp
  have e:Q4 f=[.str f.Name,.int f.Lo,.int f.Hi]:=by unfold Q4;simp[c2]
  have:=Qcg hp
  refine⟨?_,by rw[e];simp⟩
  rw[e];simp only[mem_cons,not_mem_nil,or_false,forall_eq_or_imp,forall_eq]
  exact⟨hnv,Qbv (by omega),Qbv (by omega)⟩
 rw[if_neg c2] at hp
 by_cases c3:f.Kind=3
 ·rw[if_pos c3] at hp
  simp only[Qhb,Bool.and_eq_true,all_eq_true,beq_iff_eq] at hp
  obtain⟨hg,⟨⟨hw,hl⟩,_⟩,hws⟩:=hp
  have hw':=(QbD hw).2
  have hl':f.Words.length=f.Weights.length:=by omega
  have e:Q4 f=[.str f.Name,.int (f.Words.length:Int)]++(f.Words.zip f.Weights).flatMap fun p=>[.str p.1,.int p.2]:=by unfold Q4;simp[c3]
  refine⟨?_,?_⟩
  ·rw[e]
   intro v hv
   rcases mem_append.1 hv with hv | hv
   ·simp only[mem_cons,not_mem_nil,or_false] at hv
    rcases hv with rfl | rfl
    ·exact hnv
    ·exact Qbv (by omega)
   ·obtain⟨p,hp,hv⟩:=mem_flatMap.1 hv
    obtain⟨a,b⟩:=p
    have hz:=of_mem_zip hp
    simp only[mem_cons,not_mem_nil,or_false] at hv
    rcases hv with rfl | rfl
    ·exact Qei (hws _ hz.1)
    ·have:=QbD (hg _ hz.2);exact Qbv (by omega)
  ·rw[e,length_append,Qke,length_zip]
   simp only[length_cons,length_nil]
   omega
 rw[if_neg c3] at hp
 by_cases c4:f.Kind=4
 ·rw[if_pos c4] at hp
  simp only[Bool.and_eq_true] at hp
  have e:Q4 f=[.str f.Name,.str (QcG f.Of),.int f.Lo,.int f.Hi]:=by unfold Q4;simp[c4]
  have:=Qcg hp.2
  refine⟨?_,by rw[e];simp⟩
  rw[e];simp only[mem_cons,not_mem_nil,or_false,forall_eq_or_imp,forall_eq]
  exact⟨hnv,QiR hp.1,Qbv (by omega),Qbv (by omega)⟩
 rw[if_neg c4] at hp
 by_cases c5:f.Kind=5
 ·rw[if_pos c5] at hp
  simp only[Bool.and_eq_true] at hp
  have e:Q4 f=[.str f.Name,.str (QcG f.Of),.int f.Lo,.int f.Hi]:=by unfold Q4;simp[c5]
  have:=Qcg hp.2
  refine⟨?_,by rw[e];simp⟩
  rw[e];simp only[mem_cons,not_mem_nil,or_false,forall_eq_or_imp,forall_eq]
  exact⟨hnv,QiR (by rw[hp.1];simp),Qbv (by omega),Qbv (by omega)⟩
 rw[if_neg c5] at hp
 by_cases c6:f.Kind=6
 ·rw[if_pos c6] at hp
  have e:Q4 f=[.str f.Name,.str f.Of]:=by unfold Q4;simp[c6]
  refine⟨?_,by rw[e];simp⟩
  rw[e];simp only[mem_cons,not_mem_nil,or_false,forall_eq_or_imp,forall_eq]
  exact⟨hnv,Qei hp⟩
 rw[if_neg c6] at hp
 by_cases c7:f.Kind=7
 ·rw[if_pos c7] at hp
  simp only[Bool.and_eq_true] at hp
  have e:Q4 f=[.str f.Name,.str f.Up,.str f.Of,.int f.Lo,.int f.Hi]:=by unfold Q4;simp[c7]
  have:=Qcg hp.2
  refine⟨?_,by rw[e];simp⟩
  rw[e];simp only[mem_cons,not_mem_nil,or_false,forall_eq_or_imp,forall_eq]
  exact⟨hnv,Qei hp.1.2,Qei hp.1.1,Qbv (by omega),Qbv (by omega)⟩
 rw[if_neg c7] at hp
 by_cases c8:f.Kind=8
 ·rw[if_pos c8] at hp
  simp only[Bool.and_eq_true] at hp
  have e:Q4 f=[.str f.Name,.str f.Up,.str f.Of]:=by unfold Q4;simp[c8]
  refine⟨?_,by rw[e];simp⟩
  rw[e];simp only[mem_cons,not_mem_nil,or_false,forall_eq_or_imp,forall_eq]
  exact⟨hnv,Qei hp.2,Qei hp.1⟩
 rw[if_neg c8] at hp
 cases hp
theorem Qqx {f:Qb} (h:fieldS f=true) (hw:f.Words.length≤3):(Qc4 f).length≤115:=by
 obtain⟨h1,h2⟩:=QwL h hw
 have:=QiQ (w:=Qjk f) h1
 have:=(Qkf (Qh1 h).kind).2.2
 unfold Qc4;omega
/-- A schema of at most three kinds. -/
structure Tiny (x:Qa):Prop where
 kinds:x.Kinds.length≤3
 words:∀k∈x.Kinds,∀f∈k.Fields,f.Words.length≤3
 lives:x.Lives.length≤1
 life:∀l∈x.Lives,l.States.length≤4∧l.Moves.length≤5
 rules:x.Rules.length≤2
theorem kind_t {k:Qe} (h:kindS k=true) (hw:∀f∈k.Fields,f.Words.length≤3):(Qef k).length≤1200:=by
 simp only[kindS,Bool.and_eq_true,all_eq_true,decide_eq_true_eq] at h
 obtain⟨⟨⟨h1,h2⟩,h3⟩,h4⟩:=h
 have:=Qcg h2
 have hv:∀v∈[AnyV.str k.Name,.int k.Lo,.int k.Hi],VT v:=by
  simp only[mem_cons,not_mem_nil,or_false,forall_eq_or_imp,forall_eq]
  exact⟨Qei h1,Qbv (by omega),Qbv (by omega)⟩
 have e1:=QiQ (w:=[107,105,110,100]) hv
 have e2:=Qey (l:=k.Fields) (g:=Qc4) (B:=115) fun f hf=>Qqx (h4 f hf) (hw f hf)
 unfold Qef
 rw[length_append]
 simp only[length_cons,length_nil] at e1
 omega
theorem life_t {l:Qw} (h:Qfx l=true) (hs:l.States.length≤4) (hm:l.Moves.length≤5):(QeT l).length≤300:=by
 simp only[Qfx,Bool.and_eq_true,all_eq_true,decide_eq_true_eq] at h
 obtain⟨⟨⟨⟨h1,h2⟩,h3⟩,h4⟩,h5⟩:=h
 have hl:=(QbD h2).2
 have hv:∀v∈[AnyV.str l.Name,.int (l.States.length:Int)]++l.States.map .str,VT v:=fun v hv=>by
  rcases mem_append.1 hv with hv | hv
  ·simp only[mem_cons,not_mem_nil,or_false] at hv
   rcases hv with rfl | rfl
   ·exact Qei h1
   ·exact Qbv (by omega)
  ·obtain⟨s,hs,rfl⟩:=mem_map.1 hv
   exact Qei (h3 s hs)
 have hmv:∀m∈l.Moves,(Qf1 m).length≤31:=fun m hm=>by
  have h6:=h5 m hm
  simp only[Qd1,Bool.and_eq_true] at h6
  have a1:=QbD h6.1
  have a2:=QbD h6.2
  have:=QiQ (w:=[109,111,118,101]) (l:=[AnyV.int m.a0,.int m.a1]) (by
   simp only[mem_cons,not_mem_nil,or_false,forall_eq_or_imp,forall_eq]
   exact⟨Qbv (by omega),Qbv (by omega)⟩)
  simp only[length_cons,length_nil] at this
  unfold Qf1;omega
 have e1:=QiQ (w:=[108,105,102,101]) hv
 have e2:=Qey hmv
 unfold QeT
 rw[length_append]
 simp only[length_append,length_cons,length_nil,length_map] at e1
 omega
theorem rule_t {r:Qj} (h:Qck r=true):(Qf2 r).length≤70:=by
 simp only[Qck,Bool.and_eq_true] at h
 obtain⟨⟨⟨⟨⟨h1,h2⟩,h3⟩,h4⟩,_⟩,h5⟩:=h
 have:=QbD h5
 have:=QiQ (w:=[114,117,108,101]) (l:=QdK r) (by
  unfold QdK
  simp only[mem_cons,not_mem_nil,or_false,forall_eq_or_imp,forall_eq]
  exact⟨Qei h1,Qei h2,QiR h3,QiR h4,Qbv (by omega)⟩)
 have e:(QdK r).length=5:=rfl
 simp only[length_cons,length_nil] at this
 unfold Qf2;omega
theorem Qst {x:Qa} (h:Tiny x) (hv:Qeg x=true):QfJ x=0:=by
 obtain⟨t1,t2,t3,t4,t5⟩:=h
 have hok:=Qkg hv
 have e0:=QiQ (w:=[115,99,104,101,109,97]) (l:=[AnyV.int x.Version]) (by
  simp only[mem_cons,not_mem_nil,or_false,forall_eq]
  have:=hok.version
  exact Qbv (by omega))
 have e1:=Qey (l:=x.Kinds) (g:=Qef) (B:=1200) fun k hk=>kind_t (hok.kind k hk) (t2 k hk)
 have e2:=Qey (l:=x.Lives) (g:=QeT) (B:=300) fun l hl=>life_t (hok.life l hl) (t4 l hl).1 (t4 l hl).2
 have e3:=Qey (l:=x.Rules) (g:=Qf2) (B:=70) fun r hr=>rule_t (hok.rule r hr)
 simp only[length_cons,length_nil] at e0
 unfold QfJ
 rw[if_pos hv,if_neg]
 unfold srcS
 simp only[length_append]
 omega
end Go.Proofs.YtlajingmjmnfgaaGreatDoor
namespace Go.Proofs.YtlajingmjmnfgaaGreatDoor
open Go.Sim
/-- A valid field of the generator. -/
def VF (f:Qb):Prop:=fieldS f=true∧f.Words.length≤3∧(-1000≤f.Lo∧f.Lo≤1000)∧(-1000≤f.Hi∧f.Hi≤1000)
/-- A valid kind of the generator. -/
def KV (n:Nat) (k:Qe):Prop:=k.Fields.length≤n∧(∀f∈k.Fields,VF f)∧QX k.Name=true∧(0≤k.Lo∧k.Lo≤k.Hi∧k.Hi≤65536)
theorem KV.weak {a b:Nat} {k:Qe} (h:KV a k) (hab:a≤b):KV b k:=⟨Nat.le_trans h.1 hab,h.2⟩
theorem Qhv {lo hi a b:Int} (h:a≤lo∧lo≤hi∧hi≤b):Qew lo hi a b=true:=by
 unfold Qew;simp only[Bool.and_eq_true,decide_eq_true_eq];omega
theorem Qgi {n a b:Int} (h:a≤n∧n≤b):inW n a b=true:=by
 unfold inW;simp only[Bool.and_eq_true,decide_eq_true_eq];omega
section
variable {n o u:Str} {lo hi:Int}
theorem vf_key (hn:QX n=true) (h:-1000≤lo∧lo≤1000):VF ⟨n,[],[],0,lo,0,[],[]⟩:=by
 refine⟨?_,by simp,h,by simp⟩
 have:=Qgi (n:=lo) (a:=-1048576) (b:=1048576) (by omega)
 simp[fieldS,Qd0,QdZ,Qdt,hn,this]
theorem QpY (hn:QX n=true) (ho:QX o=true) (h:0≤lo∧lo≤hi∧hi≤1000):VF ⟨n,o,[],1,lo,hi,[],[]⟩:=by
 refine⟨?_,by simp,by dsimp only;omega,by dsimp only;omega⟩
 have:=Qhv (lo:=lo) (hi:=hi) (a:=0) (b:=65536) (by omega)
 simp[fieldS,Qd0,QdZ,Qdt,hn,ho,this]
theorem QpZ (hn:QX n=true) (h:-1000≤lo∧lo≤hi∧hi≤1000):VF ⟨n,[],[],2,lo,hi,[],[]⟩:=by
 refine⟨?_,by simp,by dsimp only;omega,by dsimp only;omega⟩
 have:=Qhv (lo:=lo) (hi:=hi) (a:=-1048576) (b:=1048576) (by omega)
 simp[fieldS,Qd0,QdZ,Qdt,hn,this]
theorem Qzc {w:List Str} {g:List Int} (hn:QX n=true) (h:Qhb w g=true) (hw:w.length≤3):VF ⟨n,[],[],3,0,0,w,g⟩:=by
 refine⟨?_,hw,by simp,by simp⟩
 simp[fieldS,Qd0,QdZ,Qdt,hn,h]
theorem QuX (hn:QX n=true) (ho:((o==[])||QX o)=true) (h:-1000≤lo∧lo≤hi∧hi≤1000):VF ⟨n,o,[],4,lo,hi,[],[]⟩:=by
 refine⟨?_,by simp,by dsimp only;omega,by dsimp only;omega⟩
 have:=Qhv (lo:=lo) (hi:=hi) (a:=-1048576) (b:=1048576) (by omega)
 simp[fieldS,Qd0,QdZ,Qdt,hn,this]
 simpa using ho
theorem Qzd (hn:QX n=true) (ho:QX o=true) (h:0≤lo∧lo≤hi∧hi≤32):VF ⟨n,o,[],5,lo,hi,[],[]⟩:=by
 refine⟨?_,by simp,by dsimp only;omega,by dsimp only;omega⟩
 have:=Qhv (lo:=lo) (hi:=hi) (a:=0) (b:=32) (by omega)
 simp[fieldS,Qd0,QdZ,Qdt,hn,ho,this]
theorem vf_sum (hn:QX n=true) (ho:QX o=true):VF ⟨n,o,[],6,0,0,[],[]⟩:=by
 refine⟨?_,by simp,by simp,by simp⟩
 simp[fieldS,Qd0,QdZ,Qdt,hn,ho]
theorem QwM (hn:QX n=true) (ho:QX o=true) (hu:QX u=true) (h:0≤lo∧lo≤hi∧hi≤1000):VF ⟨n,o,u,7,lo,hi,[],[]⟩:=by
 refine⟨?_,by simp,by dsimp only;omega,by dsimp only;omega⟩
 have:=Qhv (lo:=lo) (hi:=hi) (a:=0) (b:=1048576) (by omega)
 simp[fieldS,Qd0,QdZ,Qdt,hn,ho,hu,this]
theorem Qze (hn:QX n=true) (ho:QX o=true) (hu:QX u=true):VF ⟨n,o,u,8,0,0,[],[]⟩:=by
 refine⟨?_,by simp,by simp,by simp⟩
 simp[fieldS,Qd0,QdZ,Qdt,hn,ho,hu]
end
theorem VF.name {f:Qb} (h:VF f):QX f.Name=true:=by
 have:=h.1
 unfold fieldS at this
 simp only[Bool.and_eq_true] at this
 exact this.1.1
theorem Qrp {m:Qm} (hm:MOk m):Ok (QaC m) (fun r=>r.1.length≤2∧(∀f∈r.1,VF f)∧MOk r.2):=by
 unfold QaC
 refine Ok.take hm (by decide) fun r m1 _ _ h1=>?_
 refine Ok.ite (fun _=>?_) (fun _=>?_)
 ·refine Ok.take h1 (by decide) fun r2 m2 a2 b2 h2=>Ok.take h2 (by decide) fun r3 m3 a3 b3 h3=>Ok.mk ⟨by simp,?_,h3⟩
  dsimp only
  rw[w64 (n:=r2 - 5) (by omega) (by omega),w64 (n:=r2 - 5+r3) (by omega) (by omega)]
  intro f hf
  rw[mem_singleton] at hf;subst hf
  exact QpZ (by decide) (by omega)
 refine Ok.ite (fun _=>?_) (fun _=>?_)
 ·refine Ok.take h1 (by decide) fun r2 m2 h20 h21 h2=>?_
  have hr2:i64.wrap (1+r2)=1+r2:=w64 (by omega) (by omega)
  refine Ok.sub (by decide) (by dsimp only;rw[hr2];omega) (by dsimp only;rw[hr2];simp;omega) fun w hw hwm=>?_
  dsimp only at hw
  rw[hr2] at hw
  have hwl:1≤w.length∧w.length≤3:=by omega
  have hws:w.all QX=true:=by
   rw[all_eq_true]
   intro s hs
   have:=hwm s hs
   simp only[mem_cons,not_mem_nil,or_false] at this
   rcases this with rfl | rfl | rfl<;>decide
  refine Ok.bind (P:=fun r=>(r.1.length=w.length∧∀g∈r.1,0≤g∧g≤10)∧MOk r.2) (Ok.loop (fun k s=>0≤s.1∧s.1+k=w.length∧s.2.1.length=s.1∧(∀g∈s.2.1,0≤g∧g≤10)∧MOk s.2.2) w.length ⟨Int.le_refl _,by simp,by simp,by simp,h2⟩ fun k s hs=>?_) (fun p hp=>?_)
  ·obtain⟨i,ws,m3⟩:=s
   obtain⟨e1,e2,e3,e5,e4⟩:=hs
   dsimp only at e1 e2 e3 e4 e5
   refine Ok.ite (fun h=>?_) (fun h=>?_)
   ·have h':i<w.length:=of_decide_eq_true h
    refine Ok.take e4 (by decide) fun r4 m4 a4 b4 h4=>Ok.rm (by simp;omega) (Ok.mk ?_)
    dsimp only
    rw[w64 (by omega) (by omega)]
    refine⟨k - 1,by omega,by omega,by omega,by simp;omega,fun g hg=>?_,h4⟩
    rcases mem_append.1 hg with hg | hg
    ·exact e5 g hg
    ·rw[mem_singleton] at hg;omega
   ·have h':¬i<w.length:=of_decide_eq_false h
    exact Ok.mk ⟨⟨by dsimp only;omega,e5⟩,e4⟩
  ·obtain⟨⟨p1,p2⟩,p3⟩:=hp
   refine Ok.take p3 (by omega) fun r4 m4 h40 h41 h4=>Ok.take h4 (by decide) fun r5 m5 a5 b5 h5=>?_
   refine Ok.setAt h40 (by dsimp only;omega) (Ok.mk ⟨by simp,?_,h5⟩)
   dsimp only
   rw[w64 (n:=1+r5) (by omega) (by omega)]
   intro f hf
   rw[mem_singleton] at hf
   subst hf
   have hall:∀g∈p.1.set r4.toNat (1+r5),0≤g∧g≤10:=fun g hg=>by
    rcases mem_or_eq_of_mem_set hg with hg | hg
    ·exact p2 g hg
    ·omega
   have hmem:(1+r5)∈p.1.set r4.toNat (1+r5):=mem_set (by omega) _
   have hsum:∀l:List Int,(∀g∈l,0≤g∧g≤10)→∀v∈l,v≤l.sum∧0≤l.sum:=fun l=>by
    induction l with
    | nil=>intro _ v hv;cases hv
    | cons a l ih=>
     intro hl v hv
     have ha:=hl a mem_cons_self
     have hs:0≤l.sum:=by
      have:∀l:List Int,(∀g∈l,0≤g∧g≤10)→0≤l.sum:=fun l=>by
       induction l with
       | nil=>intro _;simp
       | cons b l ih2=>intro h;have h1:=h b mem_cons_self;have h2:=ih2 fun g hg=>h g (mem_cons_of_mem _ hg);simp only[sum_cons];omega
      exact this l fun g hg=>hl g (mem_cons_of_mem _ hg)
     simp only[sum_cons]
     rcases mem_cons.1 hv with rfl | hv
     ·omega
     ·have:=(ih (fun g hg=>hl g (mem_cons_of_mem _ hg)) v hv).1;omega
   refine Qzc (by decide) ?_ (by omega)
   unfold Qhb
   simp only[Bool.and_eq_true,all_eq_true,beq_iff_eq,decide_eq_true_eq]
   refine⟨fun g hg=>Qgi (by have:=hall g hg;omega),⟨⟨Qgi (by omega),by rw[length_set];omega⟩,?_⟩,fun s hs=>all_eq_true.1 hws s hs⟩
   have:=(hsum _ hall _ hmem).1
   omega
 refine Ok.ite (fun _=>?_) (fun _=>?_)
 ·refine Ok.take h1 (by decide) fun r2 m2 a2 b2 h2=>Ok.take h2 (by decide) fun r3 m3 a3 b3 h3=>Ok.take h3 (by decide) fun r4 m4 a4 b4 h4=>Ok.take h4 (by decide) fun r5 m5 a5 b5 h5=>Ok.mk ⟨by simp,?_,h5⟩
  dsimp only
  rw[w64 (n:=r2 - 200) (by omega) (by omega),w64 (n:=r2 - 200+r3) (by omega) (by omega),w64 (n:=3+r5) (by omega) (by omega)]
  intro f hf
  simp only[mem_cons,not_mem_nil,or_false] at hf
  rcases hf with rfl | rfl
  ·exact QuX (by decide) (by decide) (by omega)
  ·exact QuX (by decide) (by decide) (by omega)
 refine Ok.ite (fun _=>?_) (fun _=>?_)
 ·refine Ok.take h1 (by decide) fun r2 m2 a2 b2 h2=>Ok.take h2 (by decide) fun r3 m3 a3 b3 h3=>Ok.mk ⟨by simp,?_,h3⟩
  dsimp only
  rw[w64 (n:=r2+r3) (by omega) (by omega)]
  intro f hf
  rw[mem_singleton] at hf;subst hf
  exact Qzd (by decide) (by decide) (by omega)
 refine Ok.ite (fun _=>?_) (fun _=>?_)
 ·refine Ok.take h1 (by decide) fun r2 m2 a2 b2 h2=>Ok.take h2 (by decide) fun r3 m3 a3 b3 h3=>Ok.take h3 (by decide) fun r4 m4 a4 b4 h4=>Ok.take h4 (by decide) fun r5 m5 a5 b5 h5=>Ok.mk ⟨by simp,?_,h5⟩
  dsimp only
  rw[w64 (n:=5+r3) (by omega) (by omega),w64 (n:=10+r5) (by omega) (by omega)]
  intro f hf
  simp only[mem_cons,not_mem_nil,or_false] at hf
  rcases hf with rfl | rfl
  ·exact QpZ (by decide) (by omega)
  ·exact QpZ (by decide) (by omega)
 ·exact Ok.mk ⟨by simp,by simp,h1⟩
end Go.Proofs.YtlajingmjmnfgaaGreatDoor
namespace Go.Proofs.YtlajingmjmnfgaaGreatDoor
open Go.Sim
/-- What a check looks at of a field: its name, its kind, what it is of, and what it goes up by. -/
abbrev Sg:=Str×Int×Str×Str
def sg (f:Qb):Sg:=(f.Name,f.Kind,f.Of,f.Up)
def sSize:Sg:=([115,105,122,101],2,[],[])
def sTag:Sg:=([116,97,103],3,[],[])
def Qsu:Sg:=([98,111,114,110],4,[],[])
def sLeft:Sg:=([108,101,102,116],4,[98,111,114,110],[])
def QuY:Sg:=([115,116,97,116,101],5,[108,105,102,101],[])
def sLow:Sg:=([108,111,119],2,[],[])
def sHigh:Sg:=([104,105,103,104],2,[],[])
def QaV:List (List Sg):=[[],[sSize],[sTag],[Qsu,sLeft],[QuY],[sLow,sHigh]]
theorem Ok.and {α:Type} {x:Option α} {P Q:α→Prop} (h:Ok x P) (k:Ok x Q):Ok x (fun r=>P r∧Q r):=by
 obtain⟨r,e,p⟩:=h
 obtain⟨s,f,q⟩:=k
 rw[e] at f
 cases f
 exact⟨r,e,p,q⟩
theorem Qrq {m:Qm} (hm:MOk m):Ok (QaC m) (fun r=>r.1.map sg∈QaV∧MOk r.2):=by
 unfold QaC
 refine Ok.take hm (by decide) fun r m1 _ _ h1=>?_
 refine Ok.ite (fun _=>?_) (fun _=>?_)
 ·exact Ok.take h1 (by decide) fun r2 m2 a2 b2 h2=>Ok.take h2 (by decide) fun r3 m3 a3 b3 h3=>Ok.mk ⟨by simp[QaV,sg,sSize],h3⟩
 refine Ok.ite (fun _=>?_) (fun _=>?_)
 ·refine Ok.take h1 (by decide) fun r2 m2 h20 h21 h2=>?_
  have hr2:i64.wrap (1+r2)=1+r2:=w64 (by omega) (by omega)
  refine Ok.sub (by decide) (by dsimp only;rw[hr2];omega) (by dsimp only;rw[hr2];simp;omega) fun w hw hwm=>?_
  dsimp only at hw
  rw[hr2] at hw
  have hwl:1≤w.length∧w.length≤3:=by omega
  refine Ok.bind (P:=fun r=>r.1.length=w.length∧MOk r.2) (Ok.loop (fun k s=>0≤s.1∧s.1+k=w.length∧s.2.1.length=s.1∧MOk s.2.2) w.length ⟨Int.le_refl _,by simp,by simp,h2⟩ fun k s hs=>?_) (fun p hp=>?_)
  ·obtain⟨i,ws,m3⟩:=s
   obtain⟨e1,e2,e3,e4⟩:=hs
   dsimp only at e1 e2 e3 e4
   refine Ok.ite (fun h=>?_) (fun h=>?_)
   ·have h':i<w.length:=of_decide_eq_true h
    refine Ok.take e4 (by decide) fun r4 m4 a4 b4 h4=>Ok.rm (by simp;omega) (Ok.mk ?_)
    dsimp only
    rw[w64 (by omega) (by omega)]
    exact⟨k - 1,by omega,by omega,by omega,by simp;omega,h4⟩
   ·have h':¬i<w.length:=of_decide_eq_false h
    exact Ok.mk ⟨by dsimp only;omega,e4⟩
  ·obtain⟨p1,p3⟩:=hp
   refine Ok.take p3 (by omega) fun r4 m4 h40 h41 h4=>Ok.take h4 (by decide) fun r5 m5 a5 b5 h5=>?_
   exact Ok.setAt h40 (by dsimp only;omega) (Ok.mk ⟨by simp[QaV,sg,sTag],h5⟩)
 refine Ok.ite (fun _=>?_) (fun _=>?_)
 ·exact Ok.take h1 (by decide) fun r2 m2 a2 b2 h2=>Ok.take h2 (by decide) fun r3 m3 a3 b3 h3=>Ok.take h3 (by decide) fun r4 m4 a4 b4 h4=>Ok.take h4 (by decide) fun r5 m5 a5 b5 h5=>Ok.mk ⟨by simp[QaV,sg,Qsu,sLeft],h5⟩
 refine Ok.ite (fun _=>?_) (fun _=>?_)
 ·exact Ok.take h1 (by decide) fun r2 m2 a2 b2 h2=>Ok.take h2 (by decide) fun r3 m3 a3 b3 h3=>Ok.mk ⟨by simp[QaV,sg,QuY],h3⟩
 refine Ok.ite (fun _=>?_) (fun _=>?_)
 ·exact Ok.take h1 (by decide) fun r2 m2 a2 b2 h2=>Ok.take h2 (by decide) fun r3 m3 a3 b3 h3=>Ok.take h3 (by decide) fun r4 m4 a4 b4 h4=>Ok.take h4 (by decide) fun r5 m5 a5 b5 h5=>Ok.mk ⟨by simp[QaV,sg,sLow,sHigh],h5⟩
 ·exact Ok.mk ⟨by simp[QaV],h1⟩
theorem Qoo {l:List Qb} {name:Str} (hl:l.length≤1000):Ok (Qcv l name) (fun r=>(-1≤r∧r<l.length)∧(r<0→∀f∈l,f.Name≠name)∧(0≤r→∃f∈l,f.Name=name)):=by
 unfold Qcv
 refine Ok.bind (P:=fun e=>match e with | .inl _=>∀f∈l,f.Name≠name | .inr r=>(0≤r∧r<l.length)∧∃f∈l,f.Name=name) (Ok.loop (fun k s=>0≤s∧s+k=l.length∧∀f∈l.take s.toNat,f.Name≠name) l.length ⟨by omega,by omega,by simp⟩ fun k s hs=>?_) (fun e he=>?_)
 ·obtain⟨h0,h1,h2⟩:=hs
  refine Ok.ite (fun h=>?_) (fun h=>Ok.mk ?_)
  ·have h':s<l.length:=of_decide_eq_true h
   refine Ok.idx h0 h' fun v hm hv=>Ok.ite (fun he=>Ok.mk ⟨⟨h0,h'⟩,v,hm,by simpa using he⟩) (fun hne=>Ok.mk ?_)
   rw[w64 (by omega) (by omega)]
   refine⟨k - 1,by omega,by omega,by omega,?_⟩
   rw[show (s+1).toNat=s.toNat+1 by omega,take_add_one,hv]
   intro f hf
   rcases mem_append.1 hf with hf | hf
   ·exact h2 f hf
   ·simp only[Option.toList_some,mem_singleton] at hf
    subst hf
    simpa using hne
  ·have h':¬s<l.length:=of_decide_eq_false h
   show ∀f∈l,f.Name≠name
   rw[take_of_length_le (by omega)] at h2
   exact h2
 ·rcases e with e | e
  ·exact Ok.mk ⟨⟨by omega,by omega⟩,fun _=>he,fun h=>by omega⟩
  ·exact Ok.mk ⟨⟨by omega,he.1.2⟩,fun h=>by omega,fun _=>he.2⟩
theorem QwN {k:Qe} (hl:k.Fields.length≤1000):Ok (QcJ k) (fun r=>(-1≤r∧r<k.Fields.length)∧(0≤r→∃f,k.Fields[r.toNat]?=some f∧f.Kind≠0∧f.Kind≠1∧f.Kind≠6∧f.Kind≠7)):=by
 unfold QcJ
 refine Ok.bind (P:=fun e=>match e with | .inl _=>True | .inr r=>(0≤r∧r<k.Fields.length)∧∃f,k.Fields[r.toNat]?=some f∧f.Kind≠0∧f.Kind≠1∧f.Kind≠6∧f.Kind≠7) (Ok.loop (fun n s=>0≤s∧s+n=k.Fields.length) k.Fields.length ⟨by omega,by omega⟩ fun n s hs=>?_) (fun e he=>?_)
 ·refine Ok.ite (fun h=>?_) (fun h=>Ok.mk trivial)
  have h':s<k.Fields.length:=of_decide_eq_true h
  refine Ok.idx hs.1 h' fun v _ hv=>Ok.ite (fun hk=>Ok.mk ⟨⟨hs.1,h'⟩,v,hv,?_⟩) (fun _=>Ok.mk ?_)
  ·simp only[Bool.and_eq_true,bne_iff_ne,ne_eq] at hk
   exact⟨hk.1.1.1,hk.1.1.2,hk.1.2,hk.2⟩
  ·rw[w64 (by omega) (by omega)]
   exact⟨n - 1,by omega,by omega,by omega⟩
 ·rcases e with e | e
  ·exact Ok.mk ⟨⟨by omega,by omega⟩,fun h=>by omega⟩
  ·exact Ok.mk ⟨⟨by omega,he.1.2⟩,fun _=>he.2⟩
/-! What a new kind looks like, and what it does to the earlier ones. -/
abbrev Ks:=Str×List Sg
def ks (k:Qe):Ks:=(k.Name,k.Fields.map sg)
def nOf:Str:=[111,102]
def QfO:Str:=[116,111,116,97,108]
def sId:Sg:=([105,100],0,[],[])
def sOf (n:Str):Sg:=(nOf,1,n,[])
def Qhl (n:Str):Sg:=([115,97,109,101],8,n,nOf)
def Qgj:Sg:=([112,97,114,116],7,QfO,nOf)
def Qgk (n:Str):Sg:=(QfO,6,n,[])
def sBy (n:Str):Sg:=([98,121],1,n,[])
/-- The first fields of a new kind of name nm behind the kinds T; T' is T behind it. -/
def PreS (T:List Ks) (nm:Str) (F:List Sg) (T':List Ks):Prop:=
 (T.length=0∧F=[sId]∧T'=T)∨
 ∃(to:Nat) (t:Ks) (cp pt:List Sg),T[to]?=some t∧F=sId::sOf t.1::(cp++pt)∧
  (cp=[]∨∃g∈t.2,(g.2.1≠0∧g.2.1≠1∧g.2.1≠6∧g.2.1≠7)∧cp=[Qhl g.1])∧
  ((pt=[]∧T'=T)∨((∀g∈t.2,g.1≠QfO)∧pt=[Qgj]∧T'=T.set to (t.1,t.2++[Qgk nm])))
/-- All fields of a new kind. -/
def Qdw (T:List Ks) (q:Ks) (T':List Ks):Prop:=
 ∃(F by' p1 p2:List Sg),PreS T q.1 F T'∧(by'=[]∨(1<T.length∧∃t,T'[0]?=some t∧by'=[sBy t.1]))∧p1∈QaV∧(p2=[]∨(p2∈QaV∧∀g,p2[0]?=some g→∀f∈F++by'++p1,f.1≠g.1))∧q.2=F++by'++p1++p2
end Go.Proofs.YtlajingmjmnfgaaGreatDoor
namespace Go.Proofs.YtlajingmjmnfgaaGreatDoor
open Go.Sim
def QgZ:List Str:=[[112,101,114,115,111,110],[111,114,100,101,114],[105,116,101,109]]
theorem QmB {p:List Qb} (h:p.map sg∈QaV):p.length≤2:=by
 have e:p.length=(p.map sg).length:=by simp
 simp only[QaV,mem_cons,not_mem_nil,or_false] at h
 rw[e]
 rcases h with h | h | h | h | h | h<;>rw[h]<;>decide
set_option maxHeartbeats 1000000 in
theorem kind_w {m:Qm} {l:List Qe} {N:Nat} (hm:MOk m) (hl:l.length≤2) (hN:N≤20) (hk:∀k∈l,k.Fields.length≤N) (hw:∀k∈l,k.Hi - k.Lo≤29):
  Ok (QaZ m l) (fun r=>(QgZ[l.length]?=some r.1.Name∧r.1.Hi - r.1.Lo≤29)∧(MOk r.2.1∧∀k∈r.2.2,k.Hi - k.Lo≤29)∧Qdw (l.map ks) (ks r.1) (r.2.2.map ks)):=by
 unfold QaZ
 refine Ok.take hm (by decide) fun r1 m1 a1 b1 h1=>?_
 refine Ok.idx a1 (by simpa using b1) fun lo hlo _=>?_
 refine Ok.idx (by omega) (by simp;omega) fun name _ ename=>?_
 have hlo2:0≤lo∧lo≤4:=by
  simp only[mem_cons,not_mem_nil,or_false] at hlo
  omega
 refine Ok.take h1 (by decide) fun r2 m2 a2 b2 h2=>?_
 refine Ok.take h2 (by decide) fun r3 m3 a3 b3 h3=>?_
 refine Ok.idx a3 (by simpa using b3) fun id0 hid _=>?_
 refine Ok.rm (by simp) ?_
 refine Ok.bind (P:=fun p:Qm×List Qb×List Qe=>MOk p.1∧p.2.1.length≤4∧(p.2.2.length=l.length∧∀k∈p.2.2,k.Hi - k.Lo≤29)∧PreS (l.map ks) name (p.2.1.map sg) (p.2.2.map ks))
  (Ok.ite (fun hpos=>?_) (fun hz=>Ok.mk ⟨h3,by simp,⟨rfl,hw⟩,.inl ⟨?_,rfl,rfl⟩⟩)) fun p hp=>?_
 ·have hpos':(0:Int)<l.length:=of_decide_eq_true hpos
  refine Ok.take h3 (by omega) fun to m4 a4 b4 h4=>?_
  refine Ok.idx a4 b4 fun kt hkt ekt=>?_
  have hT:(l.map ks)[to.toNat]?=some (ks kt):=by rw[getElem?_map,ekt];rfl
  refine Ok.take h4 (by decide) fun r5 m5 a5 b5 h5=>?_
  refine Ok.idx a5 (by simpa using b5) fun hi hhi _=>?_
  refine Ok.take h5 (by decide) fun r6 m6 _ _ h6=>?_
  refine Ok.bind (P:=fun f=>sg f=sOf kt.Name) (Ok.ite (fun _=>Ok.mk rfl) (fun _=>Ok.mk rfl)) fun f hf=>?_
  refine Ok.rm (by simp) ?_
  refine Ok.idx a4 b4 fun kt1 hkt1 ekt1=>?_
  have e:kt1=kt:=Option.some.inj (ekt1.symm.trans ekt)
  subst e
  refine (QwN (by have:=hk _ hkt1;omega)).bind fun c hc=>?_
  refine Ok.opt (P:=fun r:Int×Qm=>MOk r.2) (fun h=>(Qc9 h6 (by decide)).weak fun r h=>h.2.2) fun r7 h7=>?_
  have m7:MOk (bif (decide (c≥(0:Int)))==true then r7.2 else m6):=QcM (fun h=>h7 (by rw[h];rfl)) h6
  refine Ok.bind (P:=fun p:List Qb=>p.length≤3∧∃cp,p.map sg=sId::sOf kt1.Name::cp∧(cp=[]∨∃g∈(ks kt1).2,(g.2.1≠0∧g.2.1≠1∧g.2.1≠6∧g.2.1≠7)∧cp=[Qhl g.1])) (Ok.ite (fun h=>?_) (fun _=>Ok.mk ⟨by simp,[],?_,.inl rfl⟩)) fun fs hfs=>?_
  ·simp only[Bool.and_eq_true,decide_eq_true_eq] at h
   refine Ok.idx a4 b4 fun kt2 hkt2 ekt2=>?_
   have e:kt2=kt1:=Option.some.inj (ekt2.symm.trans ekt)
   subst e
   refine Ok.idx h.1 hc.1.2 fun g hg eg=>Ok.rm (by simp) (Ok.mk ⟨by simp,[Qhl g.Name],?_,.inr ⟨sg g,mem_map_of_mem hg,?_,rfl⟩⟩)
   ·show [sId,sg f,Qhl g.Name]=_
    rw[hf]
   ·obtain⟨g',eg',hg'⟩:=hc.2 h.1
    have e:g'=g:=Option.some.inj (eg'.symm.trans eg)
    subst e
    exact hg'
  ·show [sId,sg f]=_
   rw[hf]
  ·obtain⟨hfl,cp,hfm,hcp⟩:=hfs
   refine Ok.idx a4 b4 fun kt3 hkt3 ekt3=>?_
   have e:kt3=kt1:=Option.some.inj (ekt3.symm.trans ekt)
   subst e
   refine (Qoo (by have:=hk _ hkt3;omega)).bind fun tot htot=>?_
   refine Ok.opt (P:=fun r:Int×Qm=>MOk r.2) (fun h=>(Qc9 m7 (by decide)).weak fun r h=>h.2.2) fun r8 h8=>?_
   have m8:MOk (bif (decide (tot<(0:Int)))==true then r8.2 else (bif (decide (c≥(0:Int)))==true then r7.2 else m6)):=QcM (fun h=>h8 (by rw[h];rfl)) m7
   refine Ok.bind (P:=fun p:Qm×List Qb×List Qe=>MOk p.1∧p.2.1.length≤4∧(p.2.2.length=l.length∧∀k∈p.2.2,k.Hi - k.Lo≤29)∧PreS (l.map ks) name (p.2.1.map sg) (p.2.2.map ks))
    (Ok.ite (fun h=>?_) (fun _=>Ok.mk ⟨m8,by dsimp only;omega,⟨rfl,hw⟩,.inr ⟨to.toNat,ks kt3,cp,[],hT,by rw[hfm,append_nil];rfl,hcp,.inl ⟨rfl,rfl⟩⟩⟩)) fun p hp=>Ok.mk hp
   simp only[Bool.and_eq_true,decide_eq_true_eq] at h
   refine Ok.take m8 (by decide) fun r9 m9 a9 b9 h9=>Ok.take h9 (by decide) fun r10 m10 a10 b10 h10=>?_
   refine Ok.rm (by simp;omega) ?_
   refine Ok.idx a4 b4 fun kt4 hkt4 ekt4=>?_
   have hk4:=hk _ hkt4
   refine Ok.rm (by simp;omega) (Ok.rm (by simp;omega) ?_)
   have e:kt4=kt3:=Option.some.inj (ekt4.symm.trans ekt)
   subst e
   refine Ok.idx a4 b4 fun kt5 hkt5 ekt5=>?_
   have e:kt5=kt4:=Option.some.inj (ekt5.symm.trans ekt)
   subst e
   refine Ok.setAt a4 b4 (Ok.mk ⟨h10,by simp;omega,⟨by simp,fun k hkm=>?_⟩,.inr ⟨to.toNat,ks kt5,cp,[Qgj],hT,?_,hcp,.inr ⟨?_,rfl,?_⟩⟩⟩)
   ·rcases mem_or_eq_of_mem_set hkm with hkm | rfl
    ·exact hw k hkm
    ·exact hw kt5 hkt5
   ·dsimp only
    rw[map_append,hfm]
    rfl
   ·intro g hg
    obtain⟨f',hf',rfl⟩:=mem_map.1 hg
    exact htot.2.1 h.1 f' hf'
   ·dsimp only
    rw[map_set]
    congr 1
    simp[ks,sg,Qgk,QfO]
 ·have:¬((l.length:Int)>0):=of_decide_eq_false hz
  simp
  exact length_eq_zero_iff.1 (by omega)
 ·obtain⟨q1,q2,⟨q4,q7⟩,q5⟩:=hp
  refine Ok.opt (P:=fun r:Int×Qm=>MOk r.2) (fun h=>(Qc9 q1 (by decide)).weak fun r h=>h.2.2) fun r11 h11=>?_
  have m11:MOk (bif (decide ((l.length:Int)>(1:Int)))==true then r11.2 else p.1):=QcM (fun h=>h11 (by rw[h];rfl)) q1
  refine Ok.bind (P:=fun f:List Qb=>f.length≤5∧∃by',f.map sg=p.2.1.map sg++by'∧(by'=[]∨(1<(l.map ks).length∧∃t,(p.2.2.map ks)[0]?=some t∧by'=[sBy t.1]))) (Ok.ite (fun h=>?_) (fun _=>Ok.mk ⟨by omega,[],by simp,.inl rfl⟩)) fun fs hfs=>?_
  ·simp only[Bool.and_eq_true,decide_eq_true_eq] at h
   refine Ok.idx (by decide) (by omega) fun k0 hk0 ek0=>Ok.rm (by simp;omega) (Ok.mk ⟨by simp;omega,[sBy k0.Name],by rw[map_append];rfl,.inr ⟨by simp;omega,ks k0,?_,rfl⟩⟩)
   rw[getElem?_map]
   rw[show (0:Int).toNat=0 from rfl] at ek0
   rw[ek0];rfl
  ·refine (Qrq m11).bind fun r12 h12=>?_
   obtain⟨c1,c3⟩:=h12
   have c2:=QmB c1
   obtain⟨f1,by',f2,f3⟩:=hfs
   refine Ok.rm (by omega) ?_
   refine Ok.take c3 (by decide) fun r13 m13 _ _ h13=>?_
   have eh:i64.wrap (lo+r2)=lo+r2:=w64 (by omega) (by omega)
   refine Ok.bind (P:=fun q:Qm×List Qb=>MOk q.1∧∃p2,q.2.map sg=p.2.1.map sg++by'++r12.1.map sg++p2∧(p2=[]∨(p2∈QaV∧∀g,p2[0]?=some g→∀f∈p.2.1.map sg++by'++r12.1.map sg,f.1≠g.1))) (Ok.ite (fun h=>?_) (fun _=>Ok.mk ⟨h13,[],by rw[map_append,f2,append_nil],.inl rfl⟩)) fun p52 hp52=>?_
   ·refine (Qrq h13).bind fun r14 h14=>?_
    obtain⟨d1,d3⟩:=h14
    have d2:=QmB d1
    refine Ok.opt (P:=fun v=>r14.1[0]?=some v) (fun h=>?_) fun g hg=>?_
    ·have h':(r14.1.length:Int)>0:=by simpa using h
     exact (Ok.idx (by decide) (by omega) fun v _ ev=>Ok.mk ev:Ok ((idx r14.1 0).bind some) (fun v=>r14.1[0]?=some v)).weak (fun _ h=>h) |> fun h=>by simpa using h
    refine Ok.opt (P:=fun t=>t<0→∀f∈fs++r12.1,f.Name≠g.Name) (fun h=>(Qoo (by rw[length_append];omega)).weak fun _ h=>h.2.1) fun g2 hg2=>?_
    refine Ok.bind (P:=fun q:List Qb=>∃p2,q.map sg=p.2.1.map sg++by'++r12.1.map sg++p2∧(p2=[]∨(p2∈QaV∧∀g,p2[0]?=some g→∀f∈p.2.1.map sg++by'++r12.1.map sg,f.1≠g.1))) (Ok.ite (fun h=>Ok.rm (by rw[length_append];omega) (Ok.mk ⟨r14.1.map sg,by rw[map_append,map_append,f2],.inr ⟨d1,fun s hs f hf=>?_⟩⟩)) (fun _=>Ok.mk ⟨[],by rw[map_append,f2,append_nil],.inl rfl⟩)) fun p64 hp64=>Ok.mk ⟨d3,hp64⟩
    simp only[Bool.and_eq_true,decide_eq_true_eq] at h
    have e1:=hg (by simpa using h.1)
    have e2:=hg2 (by simpa using h.1) h.2
    rw[getElem?_map,e1] at hs
    cases hs
    rw[←f2,←map_append] at hf
    obtain⟨f',hf',rfl⟩:=mem_map.1 hf
    exact e2 f' hf'
   ·obtain⟨z1,p2,z2,z3⟩:=hp52
    refine Ok.mk ⟨⟨?_,?_⟩,⟨z1,q7⟩,p.2.1.map sg,by',r12.1.map sg,p2,q5,f3,c1,z3,z2⟩
    ·simpa[QgZ] using ename
    ·dsimp only;rw[eh];omega
end Go.Proofs.YtlajingmjmnfgaaGreatDoor
namespace Go.Proofs.YtlajingmjmnfgaaGreatDoor
open Go.Sim
def nLow:Str:=[108,111,119]
def Qjx:Str:=[104,105,103,104]
def QkT:Str:=[115,105,122,101]
/-- A rule of a kind: its name ends with the first letter of the kind's. -/
def Qjy (q:Ks) (r:Qj):Prop:=
 r.Kind=q.1∧(∃p:Str,r.Name=p++q.1.take 1)∧
  ((r.A=nLow∧r.B=Qjx∧∃g∈q.2,g.1=nLow)∨((∃g∈q.2,g.1=QkT)∧((r.A=QkT∧r.B=[])∨(r.A=[]∧r.B=QkT))))
theorem rule_w {m:Qm} {k:Qe} (hm:MOk m) (hf:k.Fields.length≤1000) (h0:1≤k.Name.length) (h1:k.Name.length≤1000):Ok (Qa0 m k) (fun r=>(r.2.1=true→Qjy (ks k) r.1)∧MOk r.2.2):=by
 unfold Qa0
 have hs:sub k.Name 0 1=some (k.Name.take 1):=by
  unfold sub
  rw[if_pos ⟨by decide,by decide,by omega⟩]
  rfl
 have hl:(k.Name.take 1).length≤1:=by rw[length_take];omega
 have sgm:∀{n:Str},(∃f∈k.Fields,f.Name=n)→∃g∈(ks k).2,g.1=n:=fun⟨f,hf,e⟩=>⟨sg f,mem_map_of_mem hf,e⟩
 rw[hs]
 simp only[Option.bind_some]
 refine (Qoo hf).bind fun a ha=>(Qoo hf).bind fun b hb=>?_
 refine Ok.opt (P:=fun r:Int×Qm=>MOk r.2) (fun h=>(Qc9 hm (by decide)).weak fun r h=>h.2.2) fun r1 h1=>?_
 have m1:MOk (bif (decide (a≥(0:Int)))==true then r1.2 else m):=QcM (fun h=>h1 (by rw[h];rfl)) hm
 refine Ok.ite (fun h=>Ok.cat (by simp;omega) (Ok.take m1 (by decide) fun v m2 a2 b2 h2=>Ok.mk ⟨fun _=>?_,h2⟩)) (fun _=>?_)
 ·simp only[Bool.and_eq_true,decide_eq_true_eq] at h
  exact⟨rfl,⟨_,rfl⟩,.inl ⟨rfl,rfl,sgm (ha.2.2 h.1)⟩⟩
 refine Ok.ite (fun _=>Ok.mk ⟨fun h=>(by cases h),m1⟩) (fun h=>?_)
 have hb0:¬b<0:=of_decide_eq_false h
 refine Ok.idx (by omega) hb.1.2 fun f hf _=>Ok.take m1 (by decide) fun r2 m2 _ _ h2=>?_
 refine Ok.ite (fun _=>Ok.cat (by simp;omega) (Ok.take h2 (by decide) fun v m2 a2 b2 h2=>Ok.mk ⟨fun _=>?_,h2⟩)) (fun _=>Ok.cat (by simp;omega) (Ok.take h2 (by decide) fun v m2 a2 b2 h2=>Ok.mk ⟨fun _=>?_,h2⟩))
 ·exact⟨rfl,⟨_,rfl⟩,.inr ⟨sgm (hb.2.2 (by omega)),.inl ⟨rfl,rfl⟩⟩⟩
 ·exact⟨rfl,⟨_,rfl⟩,.inr ⟨sgm (hb.2.2 (by omega)),.inr ⟨rfl,rfl⟩⟩⟩
end Go.Proofs.YtlajingmjmnfgaaGreatDoor
namespace Go.Proofs.YtlajingmjmnfgaaGreatDoor
open Go.Sim
set_option maxHeartbeats 1000000 in
theorem Qrr {m:Qm} {l:List Qe} {N:Nat} (hm:MOk m) (hl:l.length≤2) (hN:N≤20) (hk:∀k∈l,KV N k):
  Ok (QaZ m l) (fun r=>(KV 9 r.1∧(l.length≤1→KV 8 r.1)∧(l.length=0→KV 5 r.1))∧MOk r.2.1∧r.2.2.length=l.length∧∀k∈r.2.2,KV (N+1) k):=by
 unfold QaZ
 refine Ok.take hm (by decide) fun r1 m1 a1 b1 h1=>?_
 refine Ok.idx a1 (by simpa using b1) fun lo hlo _=>?_
 refine Ok.idx (by omega) (by simp;omega) fun name hname _=>?_
 have hsn:QX name=true:=by
  simp only[mem_cons,not_mem_nil,or_false] at hname
  rcases hname with rfl | rfl | rfl<;>decide
 have hlo2:0≤lo∧lo≤4:=by
  simp only[mem_cons,not_mem_nil,or_false] at hlo
  omega
 refine Ok.take h1 (by decide) fun r2 m2 a2 b2 h2=>?_
 refine Ok.take h2 (by decide) fun r3 m3 a3 b3 h3=>?_
 refine Ok.idx a3 (by simpa using b3) fun id0 hid _=>?_
 have hid2:VF ⟨[105,100],[],[],0,id0,0,[],[]⟩:=by
  simp only[mem_cons,not_mem_nil,or_false] at hid
  exact vf_key (by decide) (by omega)
 have hone:∀f∈([⟨[105,100],[],[],0,id0,0,[],[]⟩]:List Qb),VF f:=fun f hf=>by rw[mem_singleton] at hf;subst hf;exact hid2
 refine Ok.rm (by simp) ?_
 refine Ok.bind (P:=fun p:Qm×List Qb×List Qe=>MOk p.1∧(p.2.1.length≤4∧(l.length=0→p.2.1.length≤1))∧(∀f∈p.2.1,VF f)∧p.2.2.length=l.length∧∀k∈p.2.2,KV (N+1) k)
  (Ok.ite (fun hpos=>?_) (fun _=>Ok.mk ⟨h3,⟨by simp,by simp⟩,hone,rfl,fun k h=>(hk k h).weak (by omega)⟩)) fun p hp=>?_
 ·have hpos':(0:Int)<l.length:=of_decide_eq_true hpos
  refine Ok.take h3 (by omega) fun to m4 a4 b4 h4=>?_
  refine Ok.idx a4 b4 fun kt hkt ekt=>?_
  refine Ok.take h4 (by decide) fun r5 m5 a5 b5 h5=>?_
  refine Ok.idx a5 (by simpa using b5) fun hi hhi _=>?_
  have hhi2:2≤hi∧hi≤8:=by
   simp only[mem_cons,not_mem_nil,or_false] at hhi
   omega
  refine Ok.take h5 (by decide) fun r6 m6 _ _ h6=>?_
  have skt:=(hk kt hkt).2.2.1
  refine Ok.bind (P:=VF) (Ok.ite (fun _=>Ok.mk (QpY (by decide) skt (by omega))) (fun _=>Ok.mk (QpY (by decide) skt (by omega)))) fun f hf=>?_
  refine Ok.rm (by simp) ?_
  refine Ok.idx a4 b4 fun kt1 hkt1 _=>?_
  refine (QnA (by have:=(hk _ hkt1).1;omega)).bind fun c hc=>?_
  refine Ok.opt (P:=fun r:Int×Qm=>MOk r.2) (fun h=>(Qc9 h6 (by decide)).weak fun r h=>h.2.2) fun r7 h7=>?_
  have m7:MOk (bif (decide (c≥(0:Int)))==true then r7.2 else m6):=QcM (fun h=>h7 (by rw[h];rfl)) h6
  refine Ok.bind (P:=fun p:List Qb=>p.length≤3∧∀f∈p,VF f) (Ok.ite (fun h=>?_) (fun _=>Ok.mk ⟨by simp,?_⟩)) fun fs hfs=>?_
  ·simp only[Bool.and_eq_true,decide_eq_true_eq] at h
   refine Ok.idx a4 b4 fun kt2 hkt2 ekt2=>?_
   have e:kt2=kt1:=by simp_all
   subst e
   refine Ok.idx h.1 hc.2 fun g hg _=>Ok.rm (by simp) (Ok.mk ⟨by simp,?_⟩)
   have sg:=((hk _ hkt1).2.1 g hg).name
   intro x hx
   simp only[nil_append,cons_append,mem_cons,not_mem_nil,or_false] at hx
   rcases hx with rfl | rfl | rfl
   ·exact hid2
   ·exact hf
   ·exact Qze (by decide) sg (by decide)
  ·intro x hx
   simp only[nil_append,cons_append,mem_cons,not_mem_nil,or_false] at hx
   rcases hx with rfl | rfl
   ·exact hid2
   ·exact hf
  ·refine Ok.idx a4 b4 fun kt3 hkt3 ekt3=>?_
   refine (QgQ (by have:=(hk _ hkt3).1;omega)).bind fun tot htot=>?_
   refine Ok.opt (P:=fun r:Int×Qm=>MOk r.2) (fun h=>(Qc9 m7 (by decide)).weak fun r h=>h.2.2) fun r8 h8=>?_
   have m8:MOk (bif (decide (tot<(0:Int)))==true then r8.2 else (bif (decide (c≥(0:Int)))==true then r7.2 else m6)):=QcM (fun h=>h8 (by rw[h];rfl)) m7
   refine Ok.bind (P:=fun p:Qm×List Qb×List Qe=>MOk p.1∧(p.2.1.length≤4∧(l.length=0→p.2.1.length≤1))∧(∀f∈p.2.1,VF f)∧p.2.2.length=l.length∧∀k∈p.2.2,KV (N+1) k)
    (Ok.ite (fun h=>?_) (fun _=>Ok.mk ⟨m8,⟨by have:=hfs.1;dsimp only;omega,fun h0=>by omega⟩,hfs.2,rfl,fun k h=>(hk k h).weak (by omega)⟩)) fun p hp=>Ok.mk hp
   refine Ok.take m8 (by decide) fun r9 m9 a9 b9 h9=>Ok.take h9 (by decide) fun r10 m10 a10 b10 h10=>?_
   refine Ok.rm (by have:=hfs.1;simp;omega) ?_
   refine Ok.idx a4 b4 fun kt4 hkt4 ekt4=>?_
   have hk4:=hk _ hkt4
   have hk41:=hk4.1
   refine Ok.rm (by simp;omega) (Ok.rm (by simp;omega) ?_)
   refine Ok.idx a4 b4 fun kt5 hkt5 ekt5=>?_
   have e:kt5=kt4:=by simp_all
   subst e
   refine Ok.setAt a4 b4 (Ok.mk ⟨h10,⟨?_,fun h0=>by omega⟩,?_,?_,?_⟩)
   ·have:=hfs.1;simp;omega
   ·intro x hx
    rcases mem_append.1 hx with hx | hx
    ·exact hfs.2 x hx
    ·rw[mem_singleton] at hx;subst hx
     rw[w64 (n:=r9+r10) (by omega) (by omega)]
     exact QwM (by decide) (by decide) (by decide) (by omega)
   ·simp
   ·intro k hkm
    rcases mem_or_eq_of_mem_set hkm with hkm | rfl
    ·exact (hk k hkm).weak (by omega)
    ·refine⟨?_,?_,hk4.2.2⟩
     ·simp;omega
     ·intro x hx
      rcases mem_append.1 hx with hx | hx
      ·exact hk4.2.1 x (by simpa using hx)
      ·rw[mem_singleton] at hx;subst hx;exact vf_sum (by decide) hsn
 ·obtain⟨q1,⟨q2,q6⟩,q3,q4,q5⟩:=hp
  refine Ok.opt (P:=fun r:Int×Qm=>MOk r.2) (fun h=>(Qc9 q1 (by decide)).weak fun r h=>h.2.2) fun r11 h11=>?_
  have m11:MOk (bif (decide ((l.length:Int)>(1:Int)))==true then r11.2 else p.1):=QcM (fun h=>h11 (by rw[h];rfl)) q1
  refine Ok.bind (P:=fun p:List Qb=>(p.length≤5∧(l.length≤1→p.length≤4)∧(l.length=0→p.length≤1))∧∀f∈p,VF f) (Ok.ite (fun h=>?_) (fun _=>Ok.mk ⟨⟨by omega,fun _=>q2,q6⟩,q3⟩)) fun fs hfs=>?_
  ·simp only[Bool.and_eq_true,decide_eq_true_eq] at h
   refine Ok.idx (by decide) (by omega) fun k0 hk0 _=>Ok.rm (by simp;omega) (Ok.mk ⟨⟨by simp;omega,fun h1=>by omega,fun h1=>by omega⟩,?_⟩)
   intro x hx
   rcases mem_append.1 hx with hx | hx
   ·exact q3 x hx
   ·rw[mem_singleton] at hx;subst hx;exact QpY (by decide) (q5 k0 hk0).2.2.1 (by decide)
  ·refine (Qrp m11).bind fun r12 h12=>?_
   obtain⟨c1,c2,c3⟩:=h12
   obtain⟨⟨f1,f3,f4⟩,f2⟩:=hfs
   refine Ok.rm (by omega) ?_
   refine Ok.take c3 (by decide) fun r13 m13 _ _ h13=>?_
   have all7:∀f∈fs++r12.1,VF f:=fun x hx=>(mem_append.1 hx).elim (f2 x) (c2 x)
   have len7:(fs++r12.1).length≤7∧(l.length≤1→(fs++r12.1).length≤6)∧(l.length=0→(fs++r12.1).length≤3):=by
    rw[length_append]
    exact⟨by omega,fun h=>by have:=f3 h;omega,fun h=>by have:=f4 h;omega⟩
   obtain⟨len7,len6,len3⟩:=len7
   have eh:i64.wrap (lo+r2)=lo+r2:=w64 (by omega) (by omega)
   refine Ok.bind (P:=fun p:Qm×List Qb=>MOk p.1∧(p.2.length≤9∧(l.length≤1→p.2.length≤8)∧(l.length=0→p.2.length≤5))∧∀f∈p.2,VF f) (Ok.ite (fun h=>?_) (fun _=>Ok.mk ⟨h13,⟨by dsimp only;omega,fun h=>by have:=len6 h;dsimp only;omega,fun h=>by have:=len3 h;dsimp only;omega⟩,all7⟩)) fun p52 hp52=>Ok.mk ⟨⟨⟨hp52.2.1.1,hp52.2.2,hsn,?_⟩,fun h=>⟨hp52.2.1.2.1 h,hp52.2.2,hsn,?_⟩,fun h=>⟨hp52.2.1.2.2 h,hp52.2.2,hsn,?_⟩⟩,hp52.1,q4,q5⟩
   rotate_left
   ·dsimp only;rw[eh];omega
   ·dsimp only;rw[eh];omega
   ·dsimp only;rw[eh];omega
   refine (Qrp h13).bind fun r14 h14=>?_
   obtain⟨d1,d2,d3⟩:=h14
   refine Ok.opt (P:=fun _=>True) (fun h=>?_) fun g _=>?_
   ·have h':(r14.1.length:Int)>0:=by simpa using h
    exact (Ok.idx (by decide) (by omega) fun v _ _=>Ok.mk trivial:Ok ((idx r14.1 0).bind some) _).weak (fun _ h=>h) |> fun h=>by simpa using h
   refine Ok.opt (P:=fun _=>True) (fun h=>(QgQ (by omega)).weak fun _ _=>trivial) fun g2 _=>?_
   refine Ok.bind (P:=fun p:List Qb=>(p.length≤9∧(l.length≤1→p.length≤8)∧(l.length=0→p.length≤5))∧∀f∈p,VF f) (Ok.ite (fun h=>Ok.rm (by omega) (Ok.mk ⟨⟨by rw[length_append];omega,fun h=>by rw[length_append];have:=len6 h;omega,fun h=>by rw[length_append];have:=len3 h;omega⟩,fun x hx=>(mem_append.1 hx).elim (all7 x) (d2 x)⟩)) (fun _=>Ok.mk ⟨⟨by omega,fun h=>by have:=len6 h;omega,fun h=>by have:=len3 h;omega⟩,all7⟩)) fun p64 hp64=>Ok.mk ⟨d3,hp64.1,hp64.2⟩
end Go.Proofs.YtlajingmjmnfgaaGreatDoor
namespace Go.Proofs.YtlajingmjmnfgaaGreatDoor
open Go.Sim
theorem QnR {s:Str} (h:QX s=true):∀c∈s,(Qed (c.toNat:Int)||QhI (c.toNat:Int))=true:=by
 unfold QX at h
 simp only[Bool.and_eq_true] at h
 intro c hc
 have h3:=h.2.2
 unfold QL at h3
 rw[all_map] at h3
 exact all_eq_true.1 h3 c hc
theorem Qkp {a r:Str} (ha:QX a=true) (hl:a.length≤10) (hr:r.length=1) (hm:∀c∈r,(Qed (c.toNat:Int)||QhI (c.toNat:Int))=true):QX (a++r)=true:=by
 cases a with
 | nil=>cases ha
 | cons b a=>
  have hall:=QnR ha
  unfold QX at ha ⊢
  simp only[Bool.and_eq_true,cons_append] at ha ⊢
  refine⟨Qgi (by simp only[length_cons,length_append] at hl ⊢;omega),ha.2.1,?_⟩
  unfold QL
  rw[all_map,all_eq_true]
  intro c hc
  rw[←cons_append] at hc
  rcases mem_append.1 hc with hc | hc
  ·exact hall c hc
  ·exact hm c hc
theorem Qzf {m:Qm} {k:Qe} (hm:MOk m) (hk:KV 9 k):Ok (Qa0 m k) (fun r=>(r.2.1=true→Qck r.1=true)∧MOk r.2.2):=by
 unfold Qa0
 obtain⟨k1,k2,ks,_⟩:=hk
 have kl:=Qem ks
 have k0:1≤k.Name.length:=by
  unfold QX at ks
  simp only[Bool.and_eq_true] at ks
  have:=(QbD ks.1).1
  omega
 refine (QgQ (by omega)).bind fun a ha=>(QgQ (by omega)).bind fun b hb=>?_
 refine Ok.opt (P:=fun r:Int×Qm=>MOk r.2) (fun h=>(Qc9 hm (by decide)).weak fun r h=>h.2.2) fun r1 h1=>?_
 have m1:MOk (bif (decide (a≥(0:Int)))==true then r1.2 else m):=QcM (fun h=>h1 (by rw[h];rfl)) hm
 have nm:∀{β:Type} {Q:β→Prop} {f:Str→Option β},(∀r:Str,r.length=1→(∀c∈r,(Qed (c.toNat:Int)||QhI (c.toNat:Int))=true)→Ok (f r) Q)→Ok ((sub k.Name 0 1).bind f) Q:=
  fun h=>Ok.sub (by decide) (by decide) (by omega) fun r hr hrm=>h r (by simpa using hr) fun c hc=>QnR ks c (hrm c hc)
 have fin:∀{n a b:Str} {v:Int},QX n=true→((a==[])||QX a)=true→((b==[])||QX b)=true→(a++b !=[])=true→-2000≤v∧v≤2000→Qck ⟨n,k.Name,a,b,v⟩=true:=fun h1 h2 h3 h4 h5=>by
  unfold Qck
  simp only[h1,ks,h2,h3,h4,Bool.true_and,Bool.and_self]
  exact Qgi (by omega)
 refine Ok.ite (fun _=>nm fun r hr hm=>Ok.cat (by simp;omega) (Ok.take m1 (by decide) fun v m2 a2 b2 h2=>Ok.mk ⟨fun _=>?_,h2⟩)) (fun _=>?_)
 ·dsimp only
  rw[w64 (n:=v - 2) (by omega) (by omega)]
  exact fin (Qkp (by decide) (by decide) hr hm) (by decide) (by decide) (by decide) (by omega)
 refine Ok.ite (fun _=>Ok.mk ⟨fun h=>(by cases h),m1⟩) (fun h=>?_)
 have hb0:¬b<0:=of_decide_eq_false h
 refine Ok.idx (by omega) hb.2 fun f hf _=>Ok.take m1 (by decide) fun r2 m2 _ _ h2=>?_
 obtain⟨_,_,hlo,hhi⟩:=k2 f hf
 refine Ok.ite (fun _=>nm fun r hr hm=>Ok.cat (by simp;omega) (Ok.take h2 (by decide) fun v m2 a2 b2 h2=>Ok.mk ⟨fun _=>?_,h2⟩)) (fun _=>nm fun r hr hm=>Ok.cat (by simp;omega) (Ok.take h2 (by decide) fun v m2 a2 b2 h2=>Ok.mk ⟨fun _=>?_,h2⟩))
 ·dsimp only
  rw[w64 (n:=f.Lo+v) (by omega) (by omega)]
  exact fin (Qkp (by decide) (by decide) hr hm) (by decide) (by decide) (by decide) (by omega)
 ·dsimp only
  rw[w64 (n:=v - f.Hi) (by omega) (by omega)]
  exact fin (Qkp (by decide) (by decide) hr hm) (by decide) (by decide) (by decide) (by omega)
/-- How many fields a kind may have, when so many kinds are made. -/
def bdN (n:Nat):Nat:=if n≤1 then 5 else if n≤2 then 8 else 9
theorem QwO {l:List Int} (hl:∀x∈l,I64 x):Ok (QbF l) (fun x=>Tiny x∧Qeg x=true∧∀k∈x.Kinds,KV 9 k):=by
 unfold QbF
 refine Ok.sub (by decide) (by unfold imin;split<;>omega) (by unfold imin;split<;>omega) fun w _ hw=>?_
 have h0:MOk (Qm.mk w 0):=fun x hx=>hl x (hw x hx)
 refine Ok.take h0 (by decide) fun v m1 av bv h1=>Ok.take h1 (by decide) fun n m2 a2 b2 h2=>?_
 have en:i64.wrap (1+n)=1+n:=w64 (by omega) (by omega)
 refine Ok.bind (P:=fun p:List Qe×Qm=>p.1.length=1+n∧(∀k∈p.1,KV 9 k)∧MOk p.2)
  (Ok.loop (fun k s=>0≤s.1∧s.1+k=1+n∧s.2.1.length=s.1∧(∀q∈s.2.1,KV (bdN s.1.toNat) q)∧MOk s.2.2) (1+n).toNat ⟨Int.le_refl _,by dsimp only;omega,by simp,by simp,h2⟩ fun k s hs=>?_) (fun p hp=>?_)
 ·obtain⟨i,ks,m3⟩:=s
  obtain⟨e1,e2,e3,e4,e5⟩:=hs
  dsimp only at e1 e2 e3 e4 e5
  have hbd:bdN i.toNat≤9:=by unfold bdN;split<;>(try split)<;>omega
  refine Ok.ite (fun h=>?_) (fun h=>?_)
  ·have h':i<1+n:=by have:=of_decide_eq_true h;rwa [en] at this
   refine (Qrr (N:=bdN i.toNat) e5 (by omega) (by omega) e4).bind fun r hr=>?_
   obtain⟨⟨r1,r5,r6⟩,r2,r3,r4⟩:=hr
   refine Ok.rm (by simp;omega) (Ok.mk ?_)
   have ei:i64.wrap (i+1)=i+1:=w64 (by omega) (by omega)
   refine⟨k - 1,by omega,?_⟩
   dsimp only
   rw[ei]
   refine⟨by omega,by omega,by simp;omega,fun q hq=>?_,r2⟩
   have hi:i=0∨i=1∨i=2:=by omega
   rcases mem_append.1 hq with hq | hq
   ·refine (r4 q hq).weak ?_
    rcases hi with rfl | rfl | rfl
    ·have:ks.length=0:=by omega
     rw[length_eq_zero_iff.1 (by rw[r3,this]:r.2.2.length=0)] at hq
     cases hq
    ·decide
    ·decide
   ·rw[mem_singleton] at hq;subst hq
    rcases hi with rfl | rfl | rfl
    ·exact r6 (by omega)
    ·exact r5 (by omega)
    ·exact r1
  ·have h':¬i<1+n:=by have:=of_decide_eq_false h;rwa [en] at this
   refine Ok.mk ⟨by dsimp only;omega,fun q hq=>(e4 q hq).weak hbd,e5⟩
 obtain⟨p1,p2,p3⟩:=hp
 refine Ok.take p3 (by decide) fun t m4 a4 b4 h4=>?_
 have et:i64.wrap (2+t)=2+t:=w64 (by omega) (by omega)
 refine Ok.sub (by decide) (by dsimp only;rw[et];omega) (by dsimp only;rw[et];simp;omega) fun st hst hsm=>?_
 dsimp only at hst
 rw[et] at hst
 have hsl:2≤st.length∧st.length≤4:=by omega
 have hsn:st.all QX=true:=by
  rw[all_eq_true]
  intro s hs
  have:=hsm s hs
  simp only[mem_cons,not_mem_nil,or_false] at this
  rcases this with rfl | rfl | rfl | rfl<;>decide
 have mv:∀{a b:Int},0≤a∧a<st.length→0≤b∧b<st.length→Qd1 (st.length:Int) ⟨a,b⟩=true:=fun h1 h2=>by
  unfold Qd1
  rw[Qgi (by dsimp only;omega),Qgi (by dsimp only;omega)];rfl
 refine Ok.bind (P:=fun p:List QE=>p.length≤3∧∀m∈p,Qd1 (st.length:Int) m=true) (Ok.loop (fun k s=>0≤s.1∧s.1+1+k=st.length∧s.2.length=s.1∧∀m∈s.2,Qd1 (st.length:Int) m=true) (st.length - 1) ⟨Int.le_refl _,by dsimp only;omega,by simp,by simp⟩ fun k s hs=>?_) (fun mvs hmv=>?_)
 ·obtain⟨i,ms⟩:=s
  obtain⟨e1,e2,e3,e4⟩:=hs
  dsimp only at e1 e2 e3 e4
  have ei:i64.wrap (i+1)=i+1:=w64 (by omega) (by omega)
  refine Ok.ite (fun h=>?_) (fun h=>?_)
  ·have h':i+1<st.length:=by have:=of_decide_eq_true h;rwa [ei] at this
   refine Ok.rm (by simp;omega) (Ok.mk ⟨k - 1,by omega,?_⟩)
   dsimp only
   rw[ei]
   refine⟨by omega,by omega,by simp;omega,fun q hq=>?_⟩
   rcases mem_append.1 hq with hq | hq
   ·exact e4 q hq
   ·rw[mem_singleton] at hq;subst hq;exact mv (by omega) (by omega)
  ·have h':¬i+1<st.length:=by have:=of_decide_eq_false h;rwa [ei] at this
   exact Ok.mk ⟨by dsimp only;omega,e4⟩
 obtain⟨hmv,hmm⟩:=hmv
 have addm:∀{ms:List QE} {m:QE},(∀q∈ms,Qd1 (st.length:Int) q=true)→Qd1 (st.length:Int) m=true→∀q∈ms++[m],Qd1 (st.length:Int) q=true:=fun h1 h2 q hq=>by
  rcases mem_append.1 hq with hq | hq
  ·exact h1 q hq
  ·rw[mem_singleton] at hq;subst hq;exact h2
 refine Ok.take h4 (by decide) fun r5 m5 _ _ h5=>?_
 refine Ok.bind (P:=fun p:List QE=>p.length≤4∧∀m∈p,Qd1 (st.length:Int) m=true) (Ok.ite (fun _=>Ok.rm (by simp;omega) (Ok.mk ⟨by simp;omega,addm hmm (mv (by omega) (by omega))⟩)) (fun _=>Ok.mk ⟨by omega,hmm⟩)) fun mv2 hmv2=>?_
 obtain⟨hmv2,hmm2⟩:=hmv2
 refine Ok.take h5 (by decide) fun r6 m6 _ _ h6=>?_
 have es:i64.wrap ((st.length:Int) - 1)=(st.length:Int) - 1:=w64 (by omega) (by omega)
 refine Ok.bind (P:=fun p:List QE=>p.length≤5∧∀m∈p,Qd1 (st.length:Int) m=true) (Ok.ite (fun _=>Ok.rm (by simp;omega) (Ok.mk ⟨by simp;omega,by rw[es];exact addm hmm2 (mv (by omega) (by omega))⟩)) (fun _=>Ok.mk ⟨by omega,hmm2⟩)) fun mv3 hmv3=>?_
 obtain⟨hmv3,hmm3⟩:=hmv3
 refine Ok.rm (by simp) ?_
 refine Ok.bind (P:=fun p:List Qj=>p.length≤2∧∀r∈p,Qck r=true) (Ok.loop (fun k s=>0≤s.1∧s.1+k=1+n∧(s.2.1.length≤2∧∀r∈s.2.1,Qck r=true)∧MOk s.2.2) (1+n).toNat ⟨Int.le_refl _,by dsimp only;omega,by simp,h6⟩ fun k s hs=>?_) (fun rs hrs=>?_)
 ·obtain⟨i,rs,m7⟩:=s
  obtain⟨e1,e2,e3,e4⟩:=hs
  dsimp only at e1 e2 e3 e4
  refine Ok.ite (fun h=>?_) (fun h=>Ok.mk e3)
  simp only[Bool.and_eq_true,decide_eq_true_eq,en] at h
  refine Ok.idx e1 (by omega) fun q hq _=>(Qzf e4 (p2 q hq)).bind fun r hr=>?_
  refine Ok.bind (P:=fun p:List Qj=>p.length≤2∧∀r∈p,Qck r=true) (Ok.ite (fun hy=>Ok.rm (by simp;omega) (Ok.mk ⟨by simp;omega,fun y hy2=>(mem_append.1 hy2).elim (e3.2 y) fun hy3=>by rw[mem_singleton] at hy3;subst hy3;exact hr.1 hy⟩)) (fun _=>Ok.mk e3)) fun rs2 hrs2=>Ok.mk ⟨k - 1,by omega,?_⟩
  dsimp only
  rw[w64 (n:=i+1) (by omega) (by omega)]
  exact⟨by omega,by omega,hrs2,hr.2⟩
 ·refine Ok.mk ⟨⟨by dsimp only;omega,fun k hk f hf=>((p2 k hk).2.1 f hf).2.1,by simp,?_,hrs.1⟩,?_,p2⟩
  ·intro q hq
   simp only[nil_append,mem_singleton] at hq
   subst hq
   exact⟨by dsimp only;omega,by dsimp only;omega⟩
  ·have hk:p.1.all kindS=true:=by
    rw[all_eq_true]
    intro k hk
    obtain⟨c1,c2,c3,c4⟩:=p2 k hk
    unfold kindS
    simp only[Bool.and_eq_true,decide_eq_true_eq,all_eq_true]
    exact⟨⟨⟨c3,Qhv c4⟩,by omega⟩,fun f hf=>(c2 f hf).1⟩
   have hlf:Qfx ⟨[108,105,102,101],st,mv3⟩=true:=by
    unfold Qfx
    simp only[Bool.and_eq_true,decide_eq_true_eq]
    exact⟨⟨⟨⟨by decide,Qgi (by omega)⟩,hsn⟩,by omega⟩,all_eq_true.2 hmm3⟩
   unfold Qeg
   simp only[Bool.and_eq_true,decide_eq_true_eq]
   refine⟨⟨⟨⟨⟨⟨Qgi (by omega),by omega⟩,by simp⟩,by have:=hrs.1;omega⟩,hk⟩,?_⟩,all_eq_true.2 hrs.2⟩
   simp[hlf]
end Go.Proofs.YtlajingmjmnfgaaGreatDoor
namespace Go.Proofs.YtlajingmjmnfgaaGreatDoor
open Go.Sim
/-- The kinds that the generator makes, one after the other. -/
inductive Qbx:List Ks→Prop
 | nil:Qbx []
 | snoc {T:List Ks} {q:Ks} {T':List Ks} (h:Qbx T) (hl:T.length≤2) (hn:QgZ[T.length]?=some q.1) (hk:Qdw T q T'):Qbx (T'++[q])
/-- The rules, each of another kind. -/
def QfP (K:List Qe) (i:Int) (R:List Qj):Prop:=
 ∃ps:List (Nat×Qj),ps.map Prod.snd=R∧(ps.map Prod.fst).Pairwise (·< ·)∧∀p∈ps,(p.1:Int)<i∧∃k,K[p.1]?=some k∧Qjy (ks k) p.2
theorem QwP {l:List Int} (hl:∀x∈l,I64 x):Ok (QbF l) (fun x=>(Qbx (x.Kinds.map ks)∧(∀k∈x.Kinds,k.Hi - k.Lo≤29)∧1≤x.Kinds.length)∧(∃L,x.Lives=[L]∧L.Name=[108,105,102,101])∧∃n,QfP x.Kinds n x.Rules):=by
 unfold QbF
 refine Ok.sub (by decide) (by unfold imin;split<;>omega) (by unfold imin;split<;>omega) fun w _ hw=>?_
 have h0:MOk (Qm.mk w 0):=fun x hx=>hl x (hw x hx)
 refine Ok.take h0 (by decide) fun v m1 av bv h1=>Ok.take h1 (by decide) fun n m2 a2 b2 h2=>?_
 have en:i64.wrap (1+n)=1+n:=w64 (by omega) (by omega)
 refine Ok.bind (P:=fun p:List Qe×Qm=>(p.1.length=1+n∧(∀k∈p.1,KV 9 k)∧MOk p.2)∧Qbx (p.1.map ks)∧∀k∈p.1,k.Hi - k.Lo≤29)
  (Ok.loop (fun k s=>(0≤s.1∧s.1+k=1+n∧s.2.1.length=s.1∧(∀q∈s.2.1,KV (bdN s.1.toNat) q)∧MOk s.2.2)∧Qbx (s.2.1.map ks)∧∀k∈s.2.1,k.Hi - k.Lo≤29) (1+n).toNat ⟨⟨Int.le_refl _,by dsimp only;omega,by simp,by simp,h2⟩,Qbx.nil,by simp⟩ fun k s hs=>?_) (fun p hp=>?_)
 ·obtain⟨i,ks',m3⟩:=s
  obtain⟨⟨e1,e2,e3,e4,e5⟩,e6,e7⟩:=hs
  dsimp only at e1 e2 e3 e4 e5 e6 e7
  have hbd:bdN i.toNat≤9:=by unfold bdN;split<;>(try split)<;>omega
  refine Ok.ite (fun h=>?_) (fun h=>?_)
  ·have h':i<1+n:=by have:=of_decide_eq_true h;rwa [en] at this
   refine (Ok.and (Qrr (N:=bdN i.toNat) e5 (by omega) (by omega) e4) (kind_w (N:=bdN i.toNat) e5 (by omega) (by omega) (fun q hq=>(e4 q hq).1) e7)).bind fun r hr=>?_
   obtain⟨⟨⟨r1,r5,r6⟩,r2,r3,r4⟩,⟨w1,w2⟩,⟨_,w3⟩,w4⟩:=hr
   refine Ok.rm (by simp;omega) (Ok.mk ?_)
   have ei:i64.wrap (i+1)=i+1:=w64 (by omega) (by omega)
   refine⟨k - 1,by omega,?_⟩
   dsimp only
   rw[ei]
   refine⟨⟨by omega,by omega,by simp;omega,fun q hq=>?_,r2⟩,?_,fun q hq=>?_⟩
   ·have hi:i=0∨i=1∨i=2:=by omega
    rcases mem_append.1 hq with hq | hq
    ·refine (r4 q hq).weak ?_
     rcases hi with rfl | rfl | rfl
     ·have:ks'.length=0:=by omega
      rw[length_eq_zero_iff.1 (by rw[r3,this]:r.2.2.length=0)] at hq
      cases hq
     ·decide
     ·decide
    ·rw[mem_singleton] at hq;subst hq
     rcases hi with rfl | rfl | rfl
     ·exact r6 (by omega)
     ·exact r5 (by omega)
     ·exact r1
   ·rw[map_append]
    exact Qbx.snoc e6 (by rw[length_map];omega) (by rw[length_map];exact w1) w4
   ·rcases mem_append.1 hq with hq | hq
    ·exact w3 q hq
    ·rw[mem_singleton] at hq;subst hq;exact w2
  ·have h':¬i<1+n:=by have:=of_decide_eq_false h;rwa [en] at this
   exact Ok.mk ⟨⟨by dsimp only;omega,fun q hq=>(e4 q hq).weak hbd,e5⟩,e6,e7⟩
 obtain⟨⟨p1,p2,p3⟩,p4,p5⟩:=hp
 refine Ok.take p3 (by decide) fun t m4 a4 b4 h4=>?_
 have et:i64.wrap (2+t)=2+t:=w64 (by omega) (by omega)
 refine Ok.sub (by decide) (by dsimp only;rw[et];omega) (by dsimp only;rw[et];simp;omega) fun st hst hsm=>?_
 dsimp only at hst
 rw[et] at hst
 have hsl:2≤st.length∧st.length≤4:=by omega
 refine Ok.bind (P:=fun p:List QE=>p.length≤3) (Ok.loop (fun k s=>0≤s.1∧s.1+1+k=st.length∧s.2.length=s.1) (st.length - 1) ⟨Int.le_refl _,by dsimp only;omega,by simp⟩ fun k s hs=>?_) (fun mvs hmv=>?_)
 ·obtain⟨i,ms⟩:=s
  obtain⟨e1,e2,e3⟩:=hs
  dsimp only at e1 e2 e3
  have ei:i64.wrap (i+1)=i+1:=w64 (by omega) (by omega)
  refine Ok.ite (fun h=>?_) (fun h=>?_)
  ·have h':i+1<st.length:=by have:=of_decide_eq_true h;rwa [ei] at this
   refine Ok.rm (by simp;omega) (Ok.mk ⟨k - 1,by omega,?_⟩)
   dsimp only
   rw[ei]
   exact⟨by omega,by omega,by simp;omega⟩
  ·have h':¬i+1<st.length:=by have:=of_decide_eq_false h;rwa [ei] at this
   exact Ok.mk (by dsimp only;omega)
 refine Ok.take h4 (by decide) fun r5 m5 _ _ h5=>?_
 refine Ok.bind (P:=fun p:List QE=>p.length≤4) (Ok.ite (fun _=>Ok.rm (by simp;omega) (Ok.mk (by simp;omega))) (fun _=>Ok.mk (by omega))) fun mv2 hmv2=>?_
 refine Ok.take h5 (by decide) fun r6 m6 _ _ h6=>?_
 refine Ok.bind (P:=fun p:List QE=>p.length≤5) (Ok.ite (fun _=>Ok.rm (by simp;omega) (Ok.mk (by simp;omega))) (fun _=>Ok.mk (by omega))) fun mv3 hmv3=>?_
 refine Ok.rm (by simp) ?_
 refine Ok.bind (P:=fun R:List Qj=>∃n,QfP p.1 n R) (Ok.loop (fun k s=>0≤s.1∧s.1+k=1+n∧(s.2.1.length≤2∧QfP p.1 s.1 s.2.1)∧MOk s.2.2) (1+n).toNat ⟨Int.le_refl _,by dsimp only;omega,⟨by simp,[],rfl,by simp,by simp⟩,h6⟩ fun k s hs=>?_) (fun rs hrs=>?_)
 ·obtain⟨i,rs,m7⟩:=s
  obtain⟨e1,e2,e3,e4⟩:=hs
  dsimp only at e1 e2 e3 e4
  refine Ok.ite (fun h=>?_) (fun h=>Ok.mk ⟨i,e3.2⟩)
  simp only[Bool.and_eq_true,decide_eq_true_eq,en] at h
  refine Ok.idx e1 (by omega) fun q hq eq=>?_
  obtain⟨k1,_,ksn,_⟩:=p2 q hq
  have kl:=Qem ksn
  have k0:1≤q.Name.length:=by
   unfold QX at ksn
   simp only[Bool.and_eq_true] at ksn
   have:=(QbD ksn.1).1
   omega
  refine (rule_w e4 (by omega) k0 (by omega)).bind fun r hr=>?_
  have wk:QfP p.1 (i+1) rs:=by
   obtain⟨ps,g1,g2,g3⟩:=e3.2
   exact⟨ps,g1,g2,fun z hz=>⟨by have:=(g3 z hz).1;omega,(g3 z hz).2⟩⟩
  refine Ok.bind (P:=fun R:List Qj=>R.length≤2∧QfP p.1 (i+1) R) (Ok.ite (fun hy=>Ok.rm (by simp;omega) (Ok.mk ⟨by simp;omega,?_⟩)) (fun _=>Ok.mk ⟨e3.1,wk⟩)) fun rs2 hrs2=>Ok.mk ⟨k - 1,by omega,?_⟩
  ·obtain⟨ps,g1,g2,g3⟩:=e3.2
   refine⟨ps++[(i.toNat,r.1)],by rw[map_append,g1];rfl,?_,fun z hz=>?_⟩
   ·rw[map_append,pairwise_append]
    refine⟨g2,by simp,fun a ha b hb=>?_⟩
    obtain⟨z,hz,rfl⟩:=mem_map.1 ha
    simp only[map_cons,map_nil,mem_singleton] at hb
    subst hb
    have:=(g3 z hz).1
    omega
   ·rcases mem_append.1 hz with hz | hz
    ·exact⟨by have:=(g3 z hz).1;omega,(g3 z hz).2⟩
    ·rw[mem_singleton] at hz;subst hz
     exact⟨by dsimp only;omega,q,eq,hr.1 hy⟩
  ·dsimp only
   rw[w64 (n:=i+1) (by omega) (by omega)]
   exact⟨by omega,by omega,hrs2,hr.2⟩
 ·exact Ok.mk ⟨⟨p4,p5,by dsimp only;omega⟩,⟨_,rfl,rfl⟩,hrs⟩
end Go.Proofs.YtlajingmjmnfgaaGreatDoor
namespace Go.Proofs.YtlajingmjmnfgaaGreatDoor
open Go.Sim
theorem Qzg {T:List Ks} {i:Nat} {t:Ks} {F:List Sg} (h:T[i]?=some t):(T.set i (t.1,F)).map Prod.fst=T.map Prod.fst:=by
 rw[map_set]
 refine ext_getElem? fun j=>?_
 rw[getElem?_set]
 split
 ·rename_i e
  subst e
  have hi:i<T.length:=(List.getElem?_eq_some_iff.1 h).1
  rw[if_pos (by simpa using hi),getElem?_map,h]
  rfl
 ·rfl
/-- A new kind leaves the earlier ones' names. -/
theorem Qdw.names {T:List Ks} {q:Ks} {T':List Ks} (h:Qdw T q T'):T'.map Prod.fst=T.map Prod.fst:=by
 obtain⟨F,by',p1,p2,hp,_⟩:=h
 rcases hp with⟨_,_,rfl⟩ | ⟨to,t,cp,pt,ht,_,_,h⟩
 ·rfl
 ·rcases h with⟨_,rfl⟩ | ⟨_,_,rfl⟩
  ·rfl
  ·exact Qzg ht
/-- The kinds' names. -/
theorem Qbx.names {T:List Ks} (h:Qbx T):T.length≤3∧T.map Prod.fst=QgZ.take T.length:=by
 induction h with
 | nil=>exact⟨by decide,rfl⟩
 | @snoc T q T' h hl hn hk ih=>
  have e:=hk.names
  have el:T'.length=T.length:=by simpa using congrArg length e
  rw[length_append,el]
  refine⟨by simpa using hl,?_⟩
  rw[map_append,e,ih.2]
  simp only[length_cons,length_nil,Nat.zero_add]
  rw[take_add_one,hn]
  rfl
/-! The names of a kind's fields. -/
def presN:List (List Str):=[[sId.1],[sId.1,nOf],[sId.1,nOf,(Qhl []).1],[sId.1,nOf,Qgj.1],[sId.1,nOf,(Qhl []).1,Qgj.1]]
def bysN:List (List Str):=[[],[(sBy []).1]]
def QkU:List (List Str):=QaV.map fun p=>p.map Prod.fst
def Qp0 (l d:List Str):Bool:=match d with | []=>true | g::_=>!(l.contains g)
set_option maxRecDepth 100000 in
set_option maxHeartbeats 4000000 in
theorem QuZ:(presN.all fun a=>bysN.all fun b=>QkU.all fun c=>QkU.all fun d=>!Qp0 (a++b++c) d||(decide (a++b++c++d).Nodup&&!((a++b++c++d).contains QfO)))=true:=by decide+kernel
theorem PreS.names {T:List Ks} {nm:Str} {F:List Sg} {T':List Ks} (h:PreS T nm F T'):F.map Prod.fst∈presN:=by
 rcases h with⟨_,rfl,_⟩ | ⟨to,t,cp,pt,_,rfl,hc,hp⟩
 ·decide
 ·rcases hc with rfl | ⟨g,_,_,rfl⟩<;>rcases hp with⟨rfl,_⟩ | ⟨_,rfl,_⟩
  ·exact mem_cons_of_mem _ (mem_cons_self ..)
  ·exact mem_cons_of_mem _ (mem_cons_of_mem _ (mem_cons_of_mem _ (mem_cons_self ..)))
  ·exact mem_cons_of_mem _ (mem_cons_of_mem _ (mem_cons_self ..))
  ·exact mem_cons_of_mem _ (mem_cons_of_mem _ (mem_cons_of_mem _ (mem_cons_of_mem _ (mem_cons_self ..))))
/-- A new kind's fields have different names, none is 'total'. -/
theorem Qdw.nodup {T:List Ks} {q:Ks} {T':List Ks} (h:Qdw T q T'):(q.2.map Prod.fst).Nodup∧QfO∉q.2.map Prod.fst:=by
 obtain⟨F,by',p1,p2,hp,hb,h1,h2,e⟩:=h
 have hb':by'.map Prod.fst∈bysN:=by
  rcases hb with rfl | ⟨_,t,_,rfl⟩
  ·exact mem_cons_self ..
  ·exact mem_cons_of_mem _ (mem_cons_self ..)
 have h1':p1.map Prod.fst∈QkU:=mem_map_of_mem h1
 have h2':p2.map Prod.fst∈QkU:=by
  rcases h2 with rfl | ⟨h2,_⟩
  ·decide
  ·exact mem_map_of_mem h2
 have hf:Qp0 (F.map Prod.fst++by'.map Prod.fst++p1.map Prod.fst) (p2.map Prod.fst)=true:=by
  rcases h2 with rfl | ⟨_,h2⟩
  ·rfl
  ·cases p2 with
   | nil=>rfl
   | cons g r=>
    unfold Qp0
    simp only[map_cons,Bool.not_eq_true',←map_append]
    rw[contains_eq_mem,decide_eq_false_iff_not]
    intro hm
    obtain⟨f,hf,e⟩:=mem_map.1 hm
    exact h2 g rfl f hf e
 have:=all_eq_true.1 (all_eq_true.1 (all_eq_true.1 (all_eq_true.1 QuZ _ hp.names) _ hb') _ h1') _ h2'
 rw[hf] at this
 simp only[Bool.not_true,Bool.false_or,Bool.and_eq_true,decide_eq_true_eq,Bool.not_eq_true',contains_eq_mem,decide_eq_false_iff_not] at this
 rw[e]
 simp only[map_append]
 exact this
/-- The first field is the key, and the only one. -/
def Qu0 (l:List Sg):Prop:=∃r,l=sId::r∧∀f∈r,f.2.1≠0
theorem Qnc:(QaV.all fun p=>p.all fun f=>decide (f.2.1≠0))=true:=by decide+kernel
theorem QjF {p:List Sg} (h:p∈QaV):∀f∈p,f.2.1≠0:=fun f hf=>by
 have:=all_eq_true.1 (all_eq_true.1 Qnc p h) f hf
 simpa using this
theorem Qdw.headed {T:List Ks} {q:Ks} {T':List Ks} (h:Qdw T q T'):Qu0 q.2:=by
 obtain⟨F,by',p1,p2,hp,hb,h1,h2,e⟩:=h
 have hF:∃r,F=sId::r∧∀f∈r,f.2.1≠0:=by
  rcases hp with⟨_,rfl,_⟩ | ⟨to,t,cp,pt,_,rfl,hc,hp⟩
  ·exact⟨[],rfl,by simp⟩
  ·refine⟨_,rfl,fun f hf=>?_⟩
   rcases mem_cons.1 hf with rfl | hf
   ·show (1:Int)≠0;decide
   ·rcases mem_append.1 hf with hf | hf
    ·rcases hc with rfl | ⟨g,_,_,rfl⟩
     ·cases hf
     ·rw[mem_singleton] at hf;subst hf;show (8:Int)≠0;decide
    ·rcases hp with⟨rfl,_⟩ | ⟨_,rfl,_⟩
     ·cases hf
     ·rw[mem_singleton] at hf;subst hf;show (7:Int)≠0;decide
 obtain⟨r,rfl,hr⟩:=hF
 refine⟨r++by'++p1++p2,by rw[e];simp,fun f hf=>?_⟩
 rcases mem_append.1 hf with hf | hf
 ·rcases mem_append.1 hf with hf | hf
  ·rcases mem_append.1 hf with hf | hf
   ·exact hr f hf
   ·rcases hb with rfl | ⟨_,t,_,rfl⟩
    ·cases hf
    ·rw[mem_singleton] at hf;subst hf;show (1:Int)≠0;decide
  ·exact QjF h1 f hf
 ·rcases h2 with rfl | ⟨h2,_⟩
  ·cases hf
  ·exact QjF h2 f hf
/-- All kinds: the fields' names are different, the first field is the key and the only one. -/
theorem Qbx.fields {T:List Ks} (h:Qbx T):∀q∈T,(q.2.map Prod.fst).Nodup∧Qu0 q.2:=by
 induction h with
 | nil=>intro q hq;cases hq
 | @snoc T q T' h hl hn hk ih=>
  intro z hz
  rcases mem_append.1 hz with hz | hz
  ·obtain⟨F,by',p1,p2,hp,_⟩:=hk
   rcases hp with⟨_,_,rfl⟩ | ⟨to,t,cp,pt,ht,_,_,hp⟩
   ·exact ih z hz
   ·rcases hp with⟨_,rfl⟩ | ⟨hno,_,rfl⟩
    ·exact ih z hz
    ·rcases mem_or_eq_of_mem_set hz with hz | rfl
     ·exact ih z hz
     ·obtain⟨i1,r,i2,i3⟩:=ih t (mem_of_getElem? ht)
      refine⟨?_,r++[Qgk q.1],?_,fun f hf=>?_⟩
      ·dsimp only
       rw[map_append,nodup_append]
       refine⟨i1,by simp,fun a ha b hb=>?_⟩
       obtain⟨g,hg,rfl⟩:=mem_map.1 ha
       simp only[map_cons,map_nil,mem_singleton] at hb
       subst hb
       exact hno g hg
      ·dsimp only
       rw[i2];rfl
      ·rcases mem_append.1 hf with hf | hf
       ·exact i3 f hf
       ·rw[mem_singleton] at hf;subst hf;show (6:Int)≠0;decide
  ·rw[mem_singleton] at hz;subst hz
   exact⟨hk.nodup.1,hk.headed⟩
theorem Qbx.name_at {T:List Ks} (h:Qbx T) {i:Nat} {q:Ks} (e:T[i]?=some q):QgZ[i]?=some q.1:=by
 have e1:(T.map Prod.fst)[i]?=some q.1:=by rw[getElem?_map,e];rfl
 rw[h.names.2,getElem?_take] at e1
 split at e1
 ·exact e1
 ·cases e1
theorem Qnd:(QaV.all fun p=>p.all fun f=>decide (f.2.1≠1))=true:=by decide+kernel
/-- References go to earlier kinds. -/
def RefsS (i:Nat) (l:List Sg):Prop:=∀f∈l,f.2.1=1→∃t:Nat,t<i∧QgZ[t]?=some f.2.2.1
theorem Qdw.refs {T:List Ks} {q:Ks} {T':List Ks} (c:Qbx T) (h:Qdw T q T'):RefsS T.length q.2:=by
 have hn:=h.names
 obtain⟨F,by',p1,p2,hp,hb,h1,h2,e⟩:=h
 have pl:∀{p:List Sg},p∈QaV→∀f∈p,f.2.1≠1:=fun h f hf=>by
  have:=all_eq_true.1 (all_eq_true.1 Qnd _ h) f hf
  simpa using this
 intro f hf hk
 rw[e] at hf
 rcases mem_append.1 hf with hf | hf
 ·rcases mem_append.1 hf with hf | hf
  ·rcases mem_append.1 hf with hf | hf
   ·rcases hp with⟨_,rfl,_⟩ | ⟨to,t,cp,pt,ht,rfl,hc,hp⟩
    ·rw[mem_singleton] at hf;subst hf;exact absurd hk (by decide)
    ·rcases mem_cons.1 hf with rfl | hf
     ·exact absurd hk (by decide)
     ·rcases mem_cons.1 hf with rfl | hf
      ·exact⟨to,(List.getElem?_eq_some_iff.1 ht).1,c.name_at ht⟩
      ·rcases mem_append.1 hf with hf | hf
       ·rcases hc with rfl | ⟨g,_,_,rfl⟩
        ·cases hf
        ·rw[mem_singleton] at hf;subst hf;exact absurd (show (8:Int)=1 from hk) (by decide)
       ·rcases hp with⟨rfl,_⟩ | ⟨_,rfl,_⟩
        ·cases hf
        ·rw[mem_singleton] at hf;subst hf;exact absurd hk (by decide)
   ·rcases hb with rfl | ⟨hl,t,ht,rfl⟩
    ·cases hf
    ·rw[mem_singleton] at hf;subst hf
     have e0:T.map Prod.fst=T'.map Prod.fst:=hn.symm
     have e1:(T'.map Prod.fst)[0]?=some t.1:=by rw[getElem?_map,ht];rfl
     rw[←e0,getElem?_map] at e1
     cases h0:T[0]? with
     | none=>rw[h0] at e1;cases e1
     | some z=>
      rw[h0] at e1
      have:=c.name_at h0
      exact⟨0,by omega,this.trans e1⟩
  ·exact absurd hk (pl h1 f hf)
 ·rcases h2 with rfl | ⟨h2,_⟩
  ·cases hf
  ·exact absurd hk (pl h2 f hf)
theorem Qbx.refs {T:List Ks} (h:Qbx T):∀(i:Nat) (q:Ks),T[i]?=some q→RefsS i q.2:=by
 induction h with
 | nil=>intro i q h;simp at h
 | @snoc T q T' h hl hn hk ih=>
  intro i z hz
  have el:T'.length=T.length:=by simpa using congrArg length hk.names
  by_cases hi:i<T'.length
  ·rw[getElem?_append_left hi] at hz
   obtain⟨F,by',p1,p2,hp,_⟩:=hk
   rcases hp with⟨_,_,rfl⟩ | ⟨to,t,cp,pt,ht,_,_,hp⟩
   ·exact ih i z hz
   ·rcases hp with⟨_,rfl⟩ | ⟨hno,_,rfl⟩
    ·exact ih i z hz
    ·rw[getElem?_set] at hz
     split at hz
     ·rename_i e
      subst e
      split at hz
      ·cases hz
       intro f hf hk1
       rcases mem_append.1 hf with hf | hf
       ·exact ih _ t ht f hf hk1
       ·rw[mem_singleton] at hf;subst hf;exact absurd (show (6:Int)=1 from hk1) (by decide)
      ·cases hz
     ·exact ih i z hz
  ·rw[getElem?_append_right (by omega)] at hz
   have e0:i - T'.length=0:=by
    cases hd:i - T'.length with
    | zero=>rfl
    | succ n=>rw[hd] at hz;simp at hz
   rw[e0] at hz
   cases hz
   rw[show i=T.length by omega]
   exact hk.refs h
theorem QmC:(QaV.all fun p=>p.all fun f=>decide (f.2.1≠6∧f.2.1≠7∧f.2.1≠8))=true:=by decide+kernel
/-- What a share or a copy of a new kind leads to. -/
theorem Qdw.links {T:List Ks} {q:Ks} {T':List Ks} (h:Qdw T q T'):∀f∈q.2,f.2.1≠6∧(f.2.1=7∨f.2.1=8→∃(to:Nat) (t:Ks),T[to]?=some t∧q.2[1]?=some (sOf t.1)∧
  ((f=Qgj∧T'[to]?=some (t.1,t.2++[Qgk q.1]))∨∃g∈t.2,(g.2.1≠0∧g.2.1≠1∧g.2.1≠6∧g.2.1≠7)∧f=Qhl g.1)):=by
 obtain⟨F,by',p1,p2,hp,hb,h1,h2,e⟩:=h
 have pl:∀{p:List Sg},p∈QaV→∀f∈p,f.2.1≠6∧f.2.1≠7∧f.2.1≠8:=fun h f hf=>by
  have:=all_eq_true.1 (all_eq_true.1 QmC _ h) f hf
  simpa using this
 have no:∀f:Sg,f.2.1≠6∧f.2.1≠7∧f.2.1≠8→f.2.1≠6∧(f.2.1=7∨f.2.1=8→∃(to:Nat) (t:Ks),T[to]?=some t∧q.2[1]?=some (sOf t.1)∧
  ((f=Qgj∧T'[to]?=some (t.1,t.2++[Qgk q.1]))∨∃g∈t.2,(g.2.1≠0∧g.2.1≠1∧g.2.1≠6∧g.2.1≠7)∧f=Qhl g.1)):=fun f h=>⟨h.1,fun h'=>by omega⟩
 intro f hf
 rw[e] at hf
 rcases mem_append.1 hf with hf | hf
 ·rcases mem_append.1 hf with hf | hf
  ·rcases mem_append.1 hf with hf | hf
   ·rcases hp with⟨_,rfl,_⟩ | ⟨to,t,cp,pt,ht,rfl,hc,hp⟩
    ·rw[mem_singleton] at hf;subst hf;exact no _ (by decide)
    ·have h1:q.2[1]?=some (sOf t.1):=by rw[e];rfl
     rcases mem_cons.1 hf with rfl | hf
     ·exact no _ (by decide)
     ·rcases mem_cons.1 hf with rfl | hf
      ·exact no _ ⟨show (1:Int)≠6 by decide,show (1:Int)≠7 by decide,show (1:Int)≠8 by decide⟩
      ·rcases mem_append.1 hf with hf | hf
       ·rcases hc with rfl | ⟨g,hg,hk,rfl⟩
        ·cases hf
        ·rw[mem_singleton] at hf;subst hf
         exact⟨show (8:Int)≠6 by decide,fun _=>⟨to,t,ht,h1,.inr ⟨g,hg,hk,rfl⟩⟩⟩
       ·rcases hp with⟨rfl,_⟩ | ⟨_,rfl,rfl⟩
        ·cases hf
        ·rw[mem_singleton] at hf;subst hf
         refine⟨by decide,fun _=>⟨to,t,ht,h1,.inl ⟨rfl,?_⟩⟩⟩
         rw[getElem?_set,if_pos rfl,if_pos (List.getElem?_eq_some_iff.1 ht).1]
   ·rcases hb with rfl | ⟨_,t,_,rfl⟩
    ·cases hf
    ·rw[mem_singleton] at hf;subst hf
     exact no _ ⟨show (1:Int)≠6 by decide,show (1:Int)≠7 by decide,show (1:Int)≠8 by decide⟩
  ·exact no _ (pl h1 f hf)
 ·rcases h2 with rfl | ⟨h2,_⟩
  ·cases hf
  ·exact no _ (pl h2 f hf)
end Go.Proofs.YtlajingmjmnfgaaGreatDoor
namespace Go.Proofs.YtlajingmjmnfgaaGreatDoor
open Go.Sim
def QmD:Str:=[108,105,102,101]
/-- A day of another day comes behind it. -/
def QkV (l:List Sg):Prop:=∀(j:Nat) (f:Sg),l[j]?=some f→f.2.1=4→f.2.2.1=[]∨∃(i:Nat) (g:Sg),i<j∧l[i]?=some g∧g.1=f.2.2.1∧g.2.1=4
theorem QgE {α:Type} {l r:List α} {i:Nat} {a:α} (h:l[i]?=some a):(l++r)[i]?=some a:=by
 rw[getElem?_append_left (List.getElem?_eq_some_iff.1 h).1]
 exact h
theorem QkV.append {a b:List Sg} (ha:QkV a) (hb:QkV b):QkV (a++b):=by
 intro j f hj hk
 by_cases h:j<a.length
 ·rw[getElem?_append_left h] at hj
  rcases ha j f hj hk with h' | ⟨i,g,hi,hg,r⟩
  ·exact .inl h'
  ·exact .inr ⟨i,g,hi,QgE hg,r⟩
 ·rw[getElem?_append_right (by omega)] at hj
  rcases hb _ f hj hk with h' | ⟨i,g,hi,hg,r⟩
  ·exact .inl h'
  ·exact .inr ⟨a.length+i,g,by omega,by rw[getElem?_append_right (by omega),Nat.add_sub_cancel_left];exact hg,r⟩
theorem Qfn {l:List Sg} (h:∀f∈l,f.2.1≠4):QkV l:=fun _ f hj hk=>absurd hk (h f (mem_of_getElem? hj))
/-- Kinds are from 0 to 8; steps are of the one life; certain names are Nums. -/
def fokB (f:Sg):Bool:=(decide (0≤f.2.1)&&decide (f.2.1≤8))&&((!(f.2.1==5)||f.2.2.1==QmD)&&(!((f.1==nLow||f.1==Qjx)||f.1==QkT)||f.2.1==2))
def LowS (l:List Sg):Prop:=(∃f∈l,f.1=nLow)→∃f∈l,f.1=Qjx
structure Qdz (l:List Sg):Prop where
 days:QkV l
 fok:∀f∈l,fokB f=true
 low:LowS l
theorem Qdz.append {a b:List Sg} (ha:Qdz a) (hb:Qdz b):Qdz (a++b) where
 days:=ha.days.append hb.days
 fok f hf:=(mem_append.1 hf).elim (ha.fok f) (hb.fok f)
 low:=fun⟨f,hf,e⟩=>by
  rcases mem_append.1 hf with hf | hf
  ·obtain⟨g,hg,e⟩:=ha.low ⟨f,hf,e⟩
   exact⟨g,mem_append_left _ hg,e⟩
  ·obtain⟨g,hg,e⟩:=hb.low ⟨f,hf,e⟩
   exact⟨g,mem_append_right _ hg,e⟩
theorem Qic:Qdz []:=⟨Qfn (by simp),by simp,fun⟨_,h,_⟩=>by cases h⟩
theorem Qf5 {f:Sg} (h4:f.2.1≠4) (hf:fokB f=true) (hl:f.1≠nLow):Qdz [f]:=by
 refine⟨Qfn fun g hg=>?_,fun g hg=>?_,fun⟨g,hg,e⟩=>?_⟩<;>rw[mem_singleton] at hg<;>subst hg
 ·exact h4
 ·exact hf
 ·exact absurd e hl
theorem Qsv:(QaV.all fun p=>p.all fokB)=true:=by decide+kernel
theorem Qkq:∀p∈QaV,Qdz p:=by
 intro p hp
 refine⟨?_,all_eq_true.1 (all_eq_true.1 Qsv p hp),?_⟩
 ·simp only[QaV,mem_cons,not_mem_nil,or_false] at hp
  rcases hp with rfl | rfl | rfl | rfl | rfl | rfl
  ·exact Qfn (by simp)
  ·exact Qfn (by decide)
  ·exact Qfn (by decide)
  ·intro j f hj _
   match j,hj with
   | 0,hj=>cases hj;exact .inl rfl
   | 1,hj=>cases hj;exact .inr ⟨0,Qsu,by decide,rfl,rfl,rfl⟩
  ·exact Qfn (by decide)
  ·exact Qfn (by decide)
 ·have key:(QaV.all fun p=>!(p.any fun f=>f.1==nLow)||(p.any fun f=>f.1==Qjx))=true:=by decide+kernel
  have:=all_eq_true.1 key p hp
  rintro ⟨f,hf,e⟩
  have h1:(p.any fun f=>f.1==nLow)=true:=any_eq_true.2 ⟨f,hf,by simpa using e⟩
  rw[h1] at this
  obtain⟨g,hg,e⟩:=any_eq_true.1 (show (p.any fun f=>f.1==Qjx)=true by simpa using this)
  exact⟨g,hg,by simpa using e⟩
theorem Qdw.piece {T:List Ks} {q:Ks} {T':List Ks} (h:Qdw T q T'):Qdz q.2:=by
 obtain⟨F,by',p1,p2,hp,hb,h1,h2,e⟩:=h
 rw[e]
 have o1:Qdz [sId]:=Qf5 (by decide) (by decide) (by decide)
 refine ((Qdz.append ?_ ?_).append (Qkq p1 h1)).append (h2.elim (fun h=>h▸Qic) fun h=>Qkq p2 h.1)
 ·rcases hp with⟨_,rfl,_⟩ | ⟨to,t,cp,pt,_,rfl,hc,hp⟩
  ·exact o1
  ·refine o1.append (b:=sOf t.1::(cp++pt)) ((Qf5 (f:=sOf t.1) (show (1:Int)≠4 by decide) rfl (show nOf≠nLow by decide)).append (b:=cp++pt) (Qdz.append ?_ ?_))
   ·rcases hc with rfl | ⟨g,_,_,rfl⟩
    ·exact Qic
    ·exact Qf5 (show (8:Int)≠4 by decide) rfl (show ([115,97,109,101]:Str)≠nLow by decide)
   ·rcases hp with⟨rfl,_⟩ | ⟨_,rfl,_⟩
    ·exact Qic
    ·exact Qf5 (by decide) (by decide) (by decide)
 ·rcases hb with rfl | ⟨_,t,_,rfl⟩
  ·exact Qic
  ·exact Qf5 (show (1:Int)≠4 by decide) rfl (show ([98,121]:Str)≠nLow by decide)
def Right (h:Sg):Prop:=h.2.1≠0∧h.2.1≠1∧h.2.1≠6∧h.2.1≠7
/-- What holds of a kind's fields, among all kinds. -/
structure FInv (T:List Ks) (k:Nat) (q:Ks):Prop where
 piece:Qdz q.2
 k7:∀f∈q.2,f.2.1=7→f=Qgj∧∃(to:Nat) (t:Ks),to<k∧T[to]?=some t∧q.2[1]?=some (sOf t.1)∧Qgk q.1∈t.2
 k8:∀f∈q.2,f.2.1=8→∃(n:Str) (to:Nat) (t:Ks),f=Qhl n∧to<k∧T[to]?=some t∧q.2[1]?=some (sOf t.1)∧∃h∈t.2,h.1=n∧Right h
 k6:∀f∈q.2,f.2.1=6→∃(o:Nat) (p:Ks),f=Qgk p.1∧k<o∧T[o]?=some p∧Qgj∈p.2∧p.2[1]?=some (sOf q.1)
def Ext (T U:List Ks):Prop:=∀(i:Nat) (t:Ks),T[i]?=some t→∃r,U[i]?=some (t.1,t.2++r)
theorem FInv.ext {T U:List Ks} {k:Nat} {q:Ks} (e:Ext T U) (h:FInv T k q):FInv U k q where
 piece:=h.piece
 k7 f hf hk:=by
  obtain⟨e1,to,t,h1,h2,h3,h4⟩:=h.k7 f hf hk
  obtain⟨r,hr⟩:=e to t h2
  exact⟨e1,to,_,h1,hr,h3,mem_append_left _ h4⟩
 k8 f hf hk:=by
  obtain⟨n,to,t,e1,h1,h2,h3,g,h4,h5⟩:=h.k8 f hf hk
  obtain⟨r,hr⟩:=e to t h2
  exact⟨n,to,_,e1,h1,hr,h3,g,mem_append_left _ h4,h5⟩
 k6 f hf hk:=by
  obtain⟨o,p,e1,h1,h2,h3,h4⟩:=h.k6 f hf hk
  obtain⟨r,hr⟩:=e o p h2
  exact⟨o,(p.1,p.2++r),e1,h1,hr,mem_append_left _ h3,QgE h4⟩
theorem FInv.total {U:List Ks} {k o:Nat} {t p:Ks} (h:FInv U k t) (h1:k<o) (h2:U[o]?=some p) (h3:Qgj∈p.2) (h4:p.2[1]?=some (sOf t.1)):FInv U k (t.1,t.2++[Qgk p.1]) where
 piece:=h.piece.append (Qf5 (show (6:Int)≠4 by decide) rfl (show QfO≠nLow by decide))
 k7 f hf hk:=by
  rcases mem_append.1 hf with hf | hf
  ·obtain⟨e1,to,t',g1,g2,g3,g4⟩:=h.k7 f hf hk
   exact⟨e1,to,t',g1,g2,QgE g3,g4⟩
  ·rw[mem_singleton] at hf;subst hf;exact absurd (show (6:Int)=7 from hk) (by decide)
 k8 f hf hk:=by
  rcases mem_append.1 hf with hf | hf
  ·obtain⟨n,to,t',e1,g1,g2,g3,g⟩:=h.k8 f hf hk
   exact⟨n,to,t',e1,g1,g2,QgE g3,g⟩
  ·rw[mem_singleton] at hf;subst hf;exact absurd (show (6:Int)=8 from hk) (by decide)
 k6 f hf hk:=by
  rcases mem_append.1 hf with hf | hf
  ·exact h.k6 f hf hk
  ·rw[mem_singleton] at hf
   exact⟨o,p,hf,h1,h2,h3,h4⟩
theorem Ext.self (T:List Ks):Ext T T:=fun _ t h=>⟨[],by rw[append_nil];exact h⟩
theorem Ext.app {T U:List Ks} (r:List Ks) (h:Ext T U):Ext T (U++r):=fun i t e=>by
 obtain⟨s,hs⟩:=h i t e
 exact⟨s,QgE hs⟩
theorem Ext.set {T:List Ks} {i:Nat} {t:Ks} (s:List Sg) (h:T[i]?=some t):Ext T (T.set i (t.1,t.2++s)):=fun j u e=>by
 rw[getElem?_set]
 split
 ·rename_i ej
  subst ej
  rw[if_pos (List.getElem?_eq_some_iff.1 h).1]
  rw[h] at e;cases e
  exact⟨s,rfl⟩
 ·exact⟨[],by rw[append_nil];exact e⟩
theorem Qdw.ext {T:List Ks} {q:Ks} {T':List Ks} (h:Qdw T q T'):Ext T T':=by
 obtain⟨F,by',p1,p2,hp,_⟩:=h
 rcases hp with⟨_,_,rfl⟩ | ⟨to,t,cp,pt,ht,_,_,hp⟩
 ·exact Ext.self _
 ·rcases hp with⟨_,rfl⟩ | ⟨_,_,rfl⟩
  ·exact Ext.self _
  ·exact Ext.set _ ht
/-- What a new kind changes in the earlier ones: at most one gets a total, which goes to it. -/
theorem Qdw.old {T:List Ks} {q:Ks} {T':List Ks} (h:Qdw T q T') {i:Nat} {u:Ks} (e:T'[i]?=some u):T[i]?=some u∨∃t,T[i]?=some t∧u=(t.1,t.2++[Qgk q.1])∧Qgj∈q.2∧q.2[1]?=some (sOf t.1):=by
 obtain⟨F,by',p1,p2,hp,_,_,_,eq⟩:=h
 rcases hp with⟨_,_,rfl⟩ | ⟨to,t,cp,pt,ht,rfl,_,hp⟩
 ·exact .inl e
 ·rcases hp with⟨_,rfl⟩ | ⟨_,rfl,rfl⟩
  ·exact .inl e
  ·rw[getElem?_set] at e
   split at e
   ·rename_i ei
    subst ei
    rw[if_pos (List.getElem?_eq_some_iff.1 ht).1] at e
    cases e
    refine .inr ⟨t,ht,rfl,?_,?_⟩
    ·rw[eq];simp
    ·rw[eq];rfl
   ·exact .inl e
theorem Qbx.inv {T:List Ks} (h:Qbx T):∀(k:Nat) (q:Ks),T[k]?=some q→FInv T k q:=by
 induction h with
 | nil=>intro k q h;simp at h
 | @snoc T q T' h hl hn hk ih=>
  intro k z hz
  have el:T'.length=T.length:=by simpa using congrArg length hk.names
  have e1:Ext T (T'++[q]):=hk.ext.app [q]
  have hq:(T'++[q])[T'.length]?=some q:=by simp
  by_cases hi:k<T'.length
  ·rw[getElem?_append_left hi] at hz
   rcases hk.old hz with h0 | ⟨t,h0,rfl,h1,h2⟩
   ·exact (ih k z h0).ext e1
   ·exact ((ih k t h0).ext e1).total hi hq h1 h2
  ·rw[getElem?_append_right (by omega)] at hz
   have e0:k - T'.length=0:=by
    cases hd:k - T'.length with
    | zero=>rfl
    | succ n=>rw[hd] at hz;simp at hz
   rw[e0] at hz
   cases hz
   have hkk:k=T.length:=by omega
   refine⟨hk.piece,fun f hf hf7=>?_,fun f hf hf8=>?_,fun f hf hf6=>absurd hf6 (hk.links f hf).1⟩
   ·obtain⟨to,t,ht,h1,h2⟩:=(hk.links f hf).2 (.inl hf7)
    have hto:=(List.getElem?_eq_some_iff.1 ht).1
    rcases h2 with⟨rfl,h2⟩ | ⟨g,_,_,rfl⟩
    ·exact⟨rfl,to,_,by omega,QgE h2,h1,mem_append_right _ (mem_singleton_self _)⟩
    ·exact absurd (show (8:Int)=7 from hf7) (by decide)
   ·obtain⟨to,t,ht,h1,h2⟩:=(hk.links f hf).2 (.inr hf8)
    have hto:=(List.getElem?_eq_some_iff.1 ht).1
    rcases h2 with⟨rfl,h2⟩ | ⟨g,hg,hr,rfl⟩
    ·exact absurd hf8 (by decide)
    ·obtain⟨r,hr'⟩:=e1 to t ht
     exact⟨g.1,to,_,rfl,by omega,hr',h1,g,mem_append_left _ hg,rfl,hr⟩
end Go.Proofs.YtlajingmjmnfgaaGreatDoor
namespace Go.Proofs.YtlajingmjmnfgaaGreatDoor
open Go.Sim
section
variable {L:List Qg} {W:List Int} (hv:∀y∈L,VL y (W.length:Int)∧y.B<y.A)
include hv
end
end Go.Proofs.YtlajingmjmnfgaaGreatDoor
namespace Go.Proofs.YtlajingmjmnfgaaGreatDoor
open Go.Sim
structure CleanS (x:Qa):Prop where
 short:QeB x
 clean:QP x=[]
 few:x.Kinds.length≤3
 narrow:∀k∈x.Kinds,k.Hi - k.Lo≤29
end Go.Proofs.YtlajingmjmnfgaaGreatDoor

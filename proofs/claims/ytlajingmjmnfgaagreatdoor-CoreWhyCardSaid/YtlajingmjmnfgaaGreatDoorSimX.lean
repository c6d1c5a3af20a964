/- The logic's part on a range over a function. No condition. -/
import Derived.Test.YtlajingmjmnfgaaGreatDoorSimL
import Derived.RangeFuncRecord
import Derived.MapKept
import Derived.Laws.Cover3
import Derived.Deep.AppendSrc
import Derived.RangeFuncNested
set_option linter.all false
open List
namespace Go.Sim
def objA (b:Nat) (o:Obj):Atom:=⟨λk=>k=b,λ_ w=>w.heap[b]?=some o,λ_ _ hf h=>(hf b rfl).trans h⟩
def Qdb (l:Nat) (r:Loop) (Γ:List (Nat×Ty)):Atom:=⟨λk=>k=l,λF w=>w.heap[l]?=some (.loop r)/\∀p∈Γ,p.2.ok F w (r.tmps.getD p.1 undef),λhF hh hf h=>⟨(hf l rfl).trans h.1,λp hp=>p.2.keep hF hh (h.2 p hp)⟩⟩
def Qa6 (fn:FuncId) (tmps:Array Value) (ps:Array Tmp) (assign body:Code) (D:Nat):Loop:={ state:=.ready,pending:=none,fn,tmps,params:=ps,assign,body,defers:=D }
def mark (D:Nat):Deferred:={ target:=.collected D,args:=#[] }
abbrev defO:Obj:=.deferred (some [])
section
variable {P:Program} {M:Fr} {M0:Blk} {w0:World} {n:Nat} {Γ:List (Nat×Ty)} {As:List Atom} {a:Act} {w:World}
def St.putA {b:Nat} {o':Obj} {A A':Atom} (h:St M w0 n Γ (A::As) a w) (hA:∀k,A.fp k↔k=b) (hA':∀k,A'.fp k↔k=b)
  (hok:∀(F F':Blk) (w w':World),(∀k,F k->F' k)->(∀k,F k->w'.heap[k]?=w.heap[k]?)->w'.heap[b]?=some o'->A.ok F w->A'.ok F' w'):St M w0 n Γ (A'::As) a (w.putObj b o'):=by
 have hb:=h.fresh A (by simp) b ((hA b).2 rfl);have hfps:∀k,hold M.m (A'::As) k->hold M.m (A::As) k:=by
  rintro k (hk | ⟨B,hB,hk⟩)
  ·exact .inl hk
  ·rcases Zp.1 hB with rfl | hB
   ·exact .inr ⟨A,Zn ..,(hA k).2 ((hA' k).1 hk)⟩
   ·exact .inr ⟨B,Zs _ hB,hk⟩
 have hfree:∀k,free (hold M.m (A::As)) w k->free (hold M.m (A'::As)) (w.putObj b o') k:=λk ⟨h1,h2⟩=>⟨by simpa using h1,λhh=>h2 (hfps k hh)⟩;have hsame:∀k,k≠b->(w.putObj b o').heap[k]?=w.heap[k]?:=λk hk=>World.putObj_heap_other hk;have hnb:∀k,free (hold M.m (A::As)) w k->k≠b:=λk h2 e=>h2.2 (.inr ⟨A,Zn ..,(hA k).2 e⟩);have hap:=pairwise_cons.1 h.apart;refine⟨h.size,h.defers,?_,h.m0,?_,?_,pairwise_cons.2 ⟨λB hB k hk=>hap.1 B hB k ((hA k).2 ((hA' k).1 hk)),hap.2⟩,λp hp=>p.2.keep hfree (λk hk=>hsame k (hnb k hk)) (h.Xq p hp)⟩
 ·refine h.grow.trans (C:=λk=>k=b) ⟨rfl,rfl,rfl,by simp,λk _ hk=>hsame k hk⟩ ?_;rintro i rfl hi;rcases hb.1 with h1 | h1
  ·exact h1
  ·omega
 ·intro B hB;rcases Zp.1 hB with rfl | hB
  ·exact hok _ _ _ _ hfree (λk hk=>hsame k (hnb k hk)) (World.putObj_heap_same hb.2) (h.own A (Zn ..))
  ·exact B.keep hfree (λk hk=>hsame k (hnb k hk)) (λk hk=>hsame k (λe=>hap.1 B hB b ((hA b).2 rfl) (e▸hk))) (h.own B (Zs _ hB))
 ·intro B hB k hk;rw[World.putObj_size];rcases Zp.1 hB with rfl | hB
  ·exact h.fresh A (Zn ..) k ((hA k).2 ((hA' k).1 hk))
  ·exact h.fresh B (Zs _ hB) k hk
def St.putO {b:Nat} {o:Obj} (o':Obj) (h:St M w0 n Γ (objA b o::As) a w):St M w0 n Γ (objA b o'::As) a (w.putObj b o'):=h.putA (λ_=>Iff.rfl) (λ_=>Iff.rfl) (λ_ _ _ _ _ _ h _=>h)
def St.putL {b:Nat} {r:Loop} {Γl:List (Nat×Ty)} (r':Loop) (h:St M w0 n Γ (Qdb b r Γl::As) a w) (he:r'.tmps=r.tmps):St M w0 n Γ (Qdb b r' Γl::As) a (w.putObj b (.loop r')):=h.putA (λ_=>Iff.rfl) (λ_=>Iff.rfl) (λ_ _ _ _ hF hh h1 h2=>⟨h1,λp hp=>by rw[he];exact p.2.keep hF hh (h2.2 p hp)⟩)
def St.layA {A:Atom} (o:Obj) (h:St M w0 n Γ As a w) (hA:∀k,A.fp k↔k=w.heap.size) (hok:∀(F:Blk) (w':World),(∀k,free (hold M.m As) w k->F k)->(∀k,k<w.heap.size->w'.heap[k]?=w.heap[k]?)->w'.heap[w.heap.size]?=some o->A.ok F w'):St M w0 n Γ (A::As) a (w.alloc o):=by
 have hlt:∀A∈As,∀k,A.fp k->k<w.heap.size:=λA hA k hk=>(h.fresh A hA k hk).2;have hfree:∀k,free (hold M.m As) w k->free (hold M.m (A::As)) (w.alloc o) k:=by
  rintro k ⟨h1,h2⟩;refine⟨by simp;omega,?_⟩;rintro (hk | ⟨B,hB,hk⟩)
  ·exact h2 (.inl hk)
  ·rcases Zp.1 hB with rfl | hB
   ·exact absurd ((hA k).1 hk) (Nat.ne_of_lt h1)
   ·exact h2 (.inr ⟨B,hB,hk⟩)
 have hsame:∀k,k<w.heap.size->(w.alloc o).heap[k]?=w.heap[k]?:=λk hk=>Go.RowKit.Below.heap_alloc w o k hk;refine⟨h.size,h.defers,h.grow.trans (Step.alloc w o) (λ_ hh=>hh.elim),h.m0,?_,?_,pairwise_cons.2 ⟨?_,h.apart⟩,λp hp=>p.2.keep hfree (λk hk=>hsame k hk.1) (h.Xq p hp)⟩
 ·intro B hB;rcases Zp.1 hB with rfl | hB
  ·exact hok _ _ hfree hsame (World.alloc_heap_new w o)
  ·exact B.keep hfree (λk hk=>hsame k hk.1) (λk hk=>hsame k (hlt B hB k hk)) (h.own B hB)
 ·intro B hB k hk;rcases Zp.1 hB with rfl | hB
  ·obtain rfl:k=w.heap.size:=(hA k).1 hk;exact⟨.inr h.grow.size,by simp⟩
  ·have:=h.fresh B hB k hk;exact⟨this.1,by simp;omega⟩
 ·intro B hB k hk hkB;obtain rfl:k=w.heap.size:=(hA k).1 hk;exact absurd (hlt B hB _ hkB) (Nat.lt_irrefl _)
def St.lay (o:Obj) (h:St M w0 n Γ As a w):St M w0 n Γ (objA w.heap.size o::As) a (w.alloc o):=h.layA o (λ_=>Iff.rfl) (λ_ _ _ _ h=>h)
def St.called {E R N:List Atom} {w':World} (h:St M w0 n Γ (E++R) a w) (hs:Step (QaB E) w w') (hm:Made (hold M.m (E++R)) E N w w'):St M w0 n Γ (N++R) a w':=by
 have hap:=pairwise_append.1 h.apart;have hfE:∀k,QaB E k->(M.b k\/w0.heap.size<=k)/\k<w.heap.size:=λk ⟨A,hA,hk⟩=>h.fresh A (mem_append_left _ hA) k hk;have hmE:∀k,M.m k->¬QaB E k:=λk hk he=>by
  have h0:=h.m0 k hk;rcases (hfE k he).1 with h1 | h1
  ·exact h0.2 h1
  ·have:=h0.1;omega
 have hnext:∀k,next (hold M.m (E++R)) E N k↔hold M.m (N++R) k:=by
  intro k;constructor
  ·rintro (⟨hk | ⟨A,hA,hk⟩,hne⟩ | ⟨A,hA,hk⟩)
   ·exact .inl hk
   ·rcases Zt.1 hA with hA | hA
    ·exact (hne ⟨A,hA,hk⟩).elim
    ·exact .inr ⟨A,mem_append_right _ hA,hk⟩
   ·exact .inr ⟨A,mem_append_left _ hA,hk⟩
  ·rintro (hk | ⟨A,hA,hk⟩)
   ·exact .inl ⟨.inl hk,hmE k hk⟩
   ·rcases Zt.1 hA with hA | hA
    ·exact .inr ⟨A,hA,hk⟩
    ·exact .inl ⟨.inr ⟨A,mem_append_right _ hA,hk⟩,λ⟨B,hB,hkB⟩=>hap.2.2 B hB A hA k hkB hk⟩
 have hfree:∀k,free (hold M.m (E++R)) w k->free (hold M.m (N++R)) w' k:=by
  rintro k ⟨h1,h2⟩;refine⟨ZK h1 hs.size,λhh=>?_⟩;rcases (hnext k).2 hh with⟨hk,_⟩ | ⟨A,hA,hk⟩
  ·exact h2 hk
  ·rcases (hm.place A hA k hk).1 with⟨B,hB,hkB⟩ | hge
   ·exact h2 (.inr ⟨B,mem_append_left _ hB,hkB⟩)
   ·omega
 have hsame:∀k,free (hold M.m (E++R)) w k->w'.heap[k]?=w.heap[k]?:=λk ⟨h1,h2⟩=>hs.same k h1 (λ⟨A,hA,hk⟩=>h2 (.inr ⟨A,mem_append_left _ hA,hk⟩));have hfresh:∀A∈N++R,∀k,A.fp k->(M.b k\/w0.heap.size<=k)/\k<w'.heap.size:=by
  intro A hA k hk;rcases Zt.1 hA with hA | hA
  ·obtain⟨h1,h2⟩:=hm.place A hA k hk;refine⟨?_,h2⟩;rcases h1 with h1 | h1
   ·exact (hfE k h1).1
   ·exact .inr (Yt h.grow.size h1)
  ·have:=h.fresh A (mem_append_right _ hA) k hk;exact⟨this.1,ZK this.2 hs.size⟩
 refine⟨h.size,h.defers,h.grow.trans hs (λi hi hlt=>?_),h.m0,?_,hfresh,pairwise_append.2 ⟨hm.apart,hap.2.1,?_⟩,λp hp=>p.2.keep hfree hsame (h.Xq p hp)⟩
 ·rcases (hfE i hi).1 with h1 | h1
  ·exact h1
  ·omega
 ·intro A hA;rcases Zt.1 hA with hA | hA
  ·exact A.keep (λk ⟨h1,h2⟩=>⟨h1,λhh=>h2 ((hnext k).2 hh)⟩) (λ_ _=>rfl) (λ_ _=>rfl) (hm.ok A hA)
  ·refine A.keep hfree hsame (λk hk=>hs.same k (h.fresh A (mem_append_right _ hA) k hk).2 ?_) (h.own A (mem_append_right _ hA));rintro ⟨B,hB,hkB⟩;exact hap.2.2 B hB A hA k hkB hk
 ·intro A hA B hB k hk hkB;rcases (hm.place A hA k hk).1 with⟨C,hC,hkC⟩ | h1
  ·exact hap.2.2 C hC B hB k hkC hkB
  ·have:=(h.fresh B (mem_append_right _ hB) k hkB).2;omega
def Qqy {E:List Atom} (hM:∀k,M0 k->k<w.heap.size) (hE:QfU M0 E w) (hap:QcW E) (ha:a.tmps.size=n) (hd:a.defers=[]) (hΓ:∀p∈Γ,p.2.ok (free M0 w) w (get a p.1)):
  ∃M,QbI M0 E M/\St M w n Γ E a w:=by
 have hpl:QbI M0 E ⟨λk=>M0 k/\¬QaB E k,QaB E,[]⟩:=by
  refine⟨rfl,λk=>⟨λhk=>?_,?_⟩,λk hk=>hk.2,rfl⟩
  ·by_cases he:QaB E k
   ·exact .inr he
   ·exact .inl ⟨hk,he⟩
  ·rintro (hk | hk)
   ·exact hk.1
   ·exact Qdv hE k hk
 have hF:∀k,free M0 w k->free (hold (λk=>M0 k/\¬QaB E k) E) w k:=by
  rintro k ⟨h1,h2⟩;refine⟨h1,?_⟩;rintro (hm | hm)
  ·exact h2 hm.1
  ·exact h2 (Qdv hE k hm)
 exact⟨_,hpl,⟨ha,hd,Step.refl _ _,λk hk=>⟨hM k hk.1,hk.2⟩,λA hA=>A.keep hF (λ_ _=>rfl) (λ_ _=>rfl) (hE A hA).1,λA hA k hk=>⟨.inl ⟨A,hA,hk⟩,hM k ((hE A hA).2 k hk)⟩,hap,λp hp=>p.2.keep hF (λ_ _=>rfl) (hΓ p hp)⟩⟩
def Qow {E N:List Atom} (is:List Nat) (hpl:QbI M0 E M) (hst:St M w0 n Γ As a w) (hd:Qby is=true) (hN:is.filterMap (λi=>As[i]?)=N):Step (QaB E) w0 w/\Made M0 E N w0 w:=by
 have hmem:∀A,A∈N->A∈As:=by intro A hA;rw[<-hN] at hA;obtain⟨i,_,hi⟩:=Yy.1 hA;exact Zr hi
 have hnext:∀k,free (hold M.m As) w k->free (next M0 E N) w k:=by
  rintro k ⟨h1,h2⟩;refine⟨h1,?_⟩;rintro (⟨hm,hne⟩ | ⟨A,hA,hk⟩)
  ·rcases (hpl.m k).1 hm with hm | hm
   ·exact h2 (.inl hm)
   ·exact hne hm
  ·exact h2 (.inr ⟨A,hmem A hA,hk⟩)
 refine⟨by rw[<-hpl.b];exact hst.grow,⟨?_,λA hA k hk=>?_,λA hA=>Atom.keep _ hnext (λ_ _=>rfl) (λ_ _=>rfl) (hst.own _ (hmem A hA))⟩⟩
 ·rw[<-hN];exact Qo9 hst.apart hd
 ·have:=hst.fresh A (hmem A hA) k hk;rw[hpl.b] at this;exact this
def QrZ {l:Nat} {r:Loop} {Γl:List (Nat×Ty)} {body:Code} {F:Fence} {m:Nat} {Q:Exit->Act->World->Prop} (hst:St M w0 n Γ (Qdb l r Γl::As) a w) (hr:r.state=.ready)
  (h:∀w₂,St M w0 n Γ (Qdb l { r with state:=.busy } Γl::As) a w₂->body.wpIn F m P Q a w₂):∃w₂,(Instr.beginRound l).run P w=.ok () w₂/\body.wpIn F m P Q a w₂:=
 ⟨_,run_beginRound (hst.own _ (Zn ..)).1 hr,h _ (hst.putL _ rfl)⟩
structure QjY (M0:Blk) (E:List Atom) (D:Nat) (M:Fr):Prop where
 b:M.b=QaB E
 m:∀k,M0 k↔M.m k\/QaB E k
 d:∀k,M.m k->¬QaB E k
 e:M.d=[mark D]
def RetM (P:Program) (fn:Func) (M:Blk) (E:List Atom) (w0:World) (N:Value->List Atom) (T:Value->Ty):Exit->Act->World->Prop:=bodyPostM Fence.wide 0 P fn (λe w'=>∃x v,e=.returned v/\Step (QaB E) w0 w'/\Made M E (N x) w0 w'/\(T x).ok (free (next M E (N x)) w') w' v)
def FnOk.enterM {f:FuncId} {fn:Func} {c:Code} {Ts:List Ty} {E:List Atom} {N:Value->List Atom} {T:Value->Ty} (hf:P.funcs[f]?=some fn) (hb:fn.body=some c) (hn:fn.ntmps=n) (hl:Ts.length<=n)
  (h:∀M0 M w a,QbI M0 E M->St M w n (ents Ts) E a w->c.wp P (RetM P fn M0 E w N T) a w):FnOk P f Ts E N T:=by
 intro M0 w vs hM hE hap hc;have hvl:=hc.1;obtain⟨M,hpl,hst⟩:=Qqy (Γ:=ents Ts) (n:=n) (a:={ tmps:=vs.toArray++Array.replicate (fn.ntmps - vs.toArray.size) undef,defers:=[] }) hM hE hap (by simp[hn];omega) rfl (by
  intro p hp;obtain⟨⟨T',i⟩,hmem,rfl⟩:=ZE.1 hp;obtain⟨j,hj⟩:=Yp.1 hmem;rw[getElem?_zipIdx] at hj
  cases hT:Ts[j]? with
  | none=>simp[hT] at hj
  | some T''=>
   simp only[hT,Yb,ZV,YC] at hj;obtain⟨rfl,rfl⟩:=hj;have hlt:j<vs.length:=by rw[hvl];exact (Zg.1 hT).1
   have hget:get { tmps:=vs.toArray++Array.replicate (fn.ntmps - vs.toArray.size) undef,defers:=[] } (0+j)=vs[j]:=by unfold get;simp[Array.getElem?_append,hlt]
   show T''.ok _ _ (get _ (0+j));rw[hget];exact hc.2 j T'' vs[j] hT (Zb hlt))
 exact callsIn_wide.1 (callsIn_of_wp_marks (n:=0) hf hb trivial ((wpIn_wide (n:=0)).2 (h M0 M w _ hpl hst)) rfl)
def QmR {fn:Func} {E:List Atom} {N:Value->List Atom} {T:Value->Ty} (h:Ret P fn M0 E w0 N T .ret a w):RetM P fn M0 E w0 N T .ret a w:=by obtain⟨hd,v,hv,hR⟩:=h;show LeavesInM _ _ _ _ _ _ a.defers _ _;rw[hd];exact⟨v,hv,hR⟩
def QuQ {fn:Func} {rs:List ResultVar} {Ts:List Ty} {E:List Atom} {N:Value->List Atom} {T:Value->Ty} {D:Nat} (x:Value) (is:List Nat) (hpl:QjY M0 E D M) (hst:St M w0 n Γ (objA D defO::As) a w) (hrs:fn.results=rs.toArray)
  (h:Qdm P Γ (objA D (.deferred none)::As) rs Ts) (hd:Qby is=true) (hN:is.filterMap (λi=>(objA D (.deferred none)::As)[i]?)=N x) (hT:T x=QhS Ts):RetM P fn M0 E w0 N T .normal a w:=by
 have h1:=hst.putO (.deferred none);have hd0:=h1.defers;have h2:St ⟨M.m,M.b,[]⟩ w0 n Γ (objA D (.deferred none)::As) { a with defers:=[] } (w.putObj D (.deferred none)):=⟨h1.size,rfl,h1.grow,h1.m0,h1.own,h1.fresh,h1.apart,h1.Xq⟩;obtain⟨_,v,hv,hR⟩:=QeN (P:=P) x is (⟨hpl.b,hpl.m,hpl.d,rfl⟩:QbI M0 E ⟨M.m,M.b,[]⟩) h2 hrs h hd hN hT;show LeavesInM _ _ _ _ _ _ a.defers _ _;rw[hd0,hpl.e];exact⟨by simp,.inl ⟨D,_,rfl,run_takeDeferred (hst.own _ (Zn ..)),v,hv,hR⟩⟩
def Qsz (ops:List Oper):Bool:=ops.all λo=>match o.op with | .defer _=>false | _=>true
def wp_rgR {ops:List Oper} {l:Nat} {id:Nat} {draw:Bool} {Q:Exit->Act->World->Prop} {is:List Info} (hm:P.follows .mixedOrders=true) (hd:Qsz ops=true) (Ns:List Ver)
  (hst:St M w0 n Γ As a w) (hrun:∀new,Run P ops (verA As Ns) new 0 Γ ops is) (hchk:chk ops is ((verA As Ns).map (·.ds)) (Γ.map (·.1)) As.length (verA As Ns).length n=true)
  (hQ:∀new a' w',St M w0 n (outG ops is Γ new) (Qef (verA As Ns) is new) a' w'->Q .normal a' w'):(Code.region id ops.toArray draw).wpIn (Fence.wide.inRound l) 0 P Q a w:=
 Qzt hm (λo ho c e=>by have:=ZH.1 hd o ho;rw[e] at this;cases this) Ns hst hrun hchk hQ
end
section
variable {s:Nat} {w b:Bool} {Γ:List (Nat×Ty)} {e0 e1 e2 e3 e4 e5 e6 e7 e8 e9 e10 e11:Nat×Ty}
def bq0:Grd ((s,tv (.bool b))::Γ) s w (b==w):=.b 0 rfl
def bq1:Grd (e0::(s,tv (.bool b))::Γ) s w (b==w):=.b 1 rfl
def bq2:Grd (e0::e1::(s,tv (.bool b))::Γ) s w (b==w):=.b 2 rfl
def bq3:Grd (e0::e1::e2::(s,tv (.bool b))::Γ) s w (b==w):=.b 3 rfl
def bq4:Grd (e0::e1::e2::e3::(s,tv (.bool b))::Γ) s w (b==w):=.b 4 rfl
def bq5:Grd (e0::e1::e2::e3::e4::(s,tv (.bool b))::Γ) s w (b==w):=.b 5 rfl
def bq6:Grd (e0::e1::e2::e3::e4::e5::(s,tv (.bool b))::Γ) s w (b==w):=.b 6 rfl
def bq7:Grd (e0::e1::e2::e3::e4::e5::e6::(s,tv (.bool b))::Γ) s w (b==w):=.b 7 rfl
end
def bs2 {α β γ:Type} {x:Option α} {f:α->Option β} {g:α->β->Option γ} {r:γ} (h:(x.bind λa=>(f a).bind (g a))=some r):∃a,x=some a/\∃b,f a=some b/\g a b=some r:=by obtain⟨a,h1,h2⟩:=bind_some h;obtain⟨b,h3,h4⟩:=bind_some h2;exact⟨a,h1,b,h3,h4⟩
def bs3 {α β γ δ:Type} {x:Option α} {f:α->Option β} {g:α->β->Option γ} {k:α->β->γ->Option δ} {r:δ} (h:(x.bind λa=>(f a).bind λb=>(g a b).bind (k a b))=some r):∃a,x=some a/\∃b,f a=some b/\∃c,g a b=some c/\k a b c=some r:=by obtain⟨a,h1,h2⟩:=bind_some h;obtain⟨b,h3,h4⟩:=bind_some h2;obtain⟨c,h5,h6⟩:=bind_some h4;exact⟨a,h1,b,h3,c,h5,h6⟩
def bs4 {α β γ δ ε:Type} {x:Option α} {f:α->Option β} {g:α->β->Option γ} {k:α->β->γ->Option δ} {l:α->β->γ->δ->Option ε} {r:ε} (h:(x.bind λa=>(f a).bind λb=>(g a b).bind λc=>(k a b c).bind (l a b c))=some r):∃a,x=some a/\∃b,f a=some b/\∃c,g a b=some c/\∃d,k a b c=some d/\l a b c d=some r:=by obtain⟨a,h1,h2⟩:=bind_some h;obtain⟨b,h3,c,h5,d,h7,h8⟩:=bs3 h2;exact⟨a,h1,b,h3,c,h5,d,h7,h8⟩
def bs {α β:Type} {x:Option α} {f:α->Option β} {r:β} (h:x.bind f=some r):∃a,x=some a/\f a=some r:=bind_some h
section
variable {P:Program} {M:Fr} {M0:Blk} {w0 w:World} {n:Nat} {Γ:List (Nat×Ty)} {As:List Atom} {a:Act}
def wi {s:Nat} {b:Bool} {α:Type} {x y:Option α} {r:α} {c1 c2:Code} {Q:Exit->Act->World->Prop} (hst:St M w0 n ((s,tv (.bool b))::Γ) As a w) (h:(if b=true then x else y)=some r) (ht:b=true->x=some r->c1.wp P Q a w) (hf:b=false->y=some r->c2.wp P Q a w):(Code.cond (.tmp s) c1 c2).wp P Q a w:=wt hst (λhb=>ht hb (QcI hb h)) (λhb=>hf hb (QcJ hb h))
def fe {f:FuncId} {fn:Func} {c:Code} {Ts:List Ty} {E:List Atom} {N:Value->List Atom} {T:Value->Ty} (hf:P.funcs[f]?=some fn) (hn:fn.ntmps=n) (h:∀M0 M w a,QbI M0 E M->St M w n (ents Ts) E a w->c.wp P (Ret P fn M0 E w N T) a w) (hb:fn.body=some c:=by rfl) (hl:Ts.length<=n:=by exact Nat.le_of_ble_eq_true rfl):FnOk P f Ts E N T:=FnOk.enter hf hb hn hl h
def rt {fn:Func} {rs:List ResultVar} {Ts:List Ty} {E:List Atom} {N:Value->List Atom} {T:Value->Ty} (x:Value) (is:List Nat) (hpl:QbI M0 E M) (hst:St M w0 n Γ As a w) (h:Qdm P Γ As rs Ts) (hrs:fn.results=rs.toArray:=by rfl) (hd:Qby is=true:=by rfl)
  (hN:is.filterMap (λi=>As[i]?)=N x:=by rfl) (hT:T x=QhS Ts:=by rfl):Ret P fn M0 E w0 N T .ret a w:=QeN x is hpl hst hrs h hd hN hT
def r0 {α:Type} {e r:α} {P:Program} {Q:Exit->Act->World->Prop} {a:Act} {w:World} (h:some e=some r) (k:e=r->Q .ret a w):Code.ret.wp P Q a w:=wp_ret (k (Zu h))
def r1 {fn:Func} {rs:List ResultVar} {Ts:List Ty} {E:List Atom} {N:Value->List Atom} {T:Value->Ty} (hpl:QbI M0 E M) (hst:St M w0 n Γ As a w) (h:Qdm P Γ As rs Ts) (hrs:fn.results=rs.toArray:=by rfl)
  (hN:([]:List Atom)=N undef:=by rfl) (hT:T undef=QhS Ts:=by rfl):Ret P fn M0 E w0 N T .ret a w:=QeN undef [] hpl hst hrs h rfl hN hT
end
section
open Go.MapKept
section
variable {α:Type}
abbrev Mp (α:Type):=Option (List (Int×α))
end
end
section
variable {Γ:List (Nat×Ty)} {P:Program} {d:Option Tmp} {ty:TypeId} {pos:String} {af:Array Edge} {g:Option (Nat×Bool)} {x y:Operand} {t:TypeId} {bytes:Nat} {z:Value}
def zokPf:∀F w,(rVal.ty .nilFunc).ok F w .nilFunc:=λ_ _=>⟨rfl,rfl⟩
def zokP:∀F w,(rVal.ty (.pointer none)).ok F w (.pointer none):=λ_ _=>⟨rfl,rfl⟩
end
def QfV (As:List Atom):Atom:=⟨fps As,λF w=>(∀A∈As,A.ok F w)/\QcW As,λhF hh hf h=>⟨λA hA=>A.keep hF hh (λk hk=>hf k ⟨A,hA,hk⟩) (h.1 A hA),h.2⟩⟩
def QhF {E:List Atom}:QaB [QfV E]=QaB E:=by
 funext k
 exact propext ⟨λ⟨A,hA,hk⟩=>by obtain rfl:=Zh.1 hA;exact hk,λh=>⟨_,Zh.2 rfl,h⟩⟩
def Qlp {M:Blk} {E N:List Atom}:next M [QfV E] [QfV N]=next M E N:=by unfold next;rw[QhF,QhF]
def Qtx {M:Blk} {E:List Atom} {w:World} (h:QfU M E w) (hap:QcW E):QfU M [QfV E] w:=λA hA=>by obtain rfl:=Zh.1 hA;exact⟨⟨λB hB=>(h B hB).1,hap⟩,λk ⟨B,hB,hk⟩=>(h B hB).2 k hk⟩
def QpR {M:Blk} {E:List Atom} {w:World} (h:QfU M [QfV E] w):QfU M E w/\QcW E:=
 have:=h _ (Zh.2 rfl)
 ⟨λA hA=>⟨this.1.1 A hA,λk hk=>this.2 k ⟨A,hA,hk⟩⟩,this.1.2⟩
def QuS {M:Blk} {E N:List Atom} {w w':World} (h:Made M E N w w'):Made M [QfV E] [QfV N] w w':=
 ⟨pairwise_singleton _ _,λA hA k hk=>by
  obtain rfl:=Zh.1 hA;obtain⟨B,hB,hk⟩:=hk;rw[QhF];exact h.place B hB k hk,λA hA=>by
  obtain rfl:=Zh.1 hA;rw[Qlp];exact⟨h.ok,h.apart⟩⟩
def Qqz {M:Blk} {E N:List Atom} {w w':World} (h:Made M [QfV E] [QfV N] w w'):Made M E N w w':=by have h1:=h.ok _ (Zh.2 rfl);rw[Qlp] at h1;exact⟨h1.2,λA hA k hk=>by have:=h.place _ (Zh.2 rfl) k ⟨A,hA,hk⟩;rwa [QhF] at this,h1.1⟩
section
variable {P:Program} {M:Fr} {M0:Blk} {w0:World} {n:Nat} {Γ:List (Nat×Ty)} {As:List Atom} {a:Act} {w:World}
def FnOk.unjoin {f:FuncId} {Ts:List Ty} {E:List Atom} {N:Value->List Atom} {T:Value->Ty} (h:FnOk P f Ts [QfV E] (λx=>[QfV (N x)]) T):FnOk P f Ts E N T:=λM w vs hM hE hap hc=>Calls.mono (h M w vs hM (Qtx hE hap) (pairwise_singleton _ _) hc) (λe w' ⟨x,v,he,hs,hm,ht⟩=>⟨x,v,he,by rwa [QhF] at hs,Qqz hm,by rwa [Qlp] at ht⟩)
def RB (E:List Atom) (M0:Blk) (b:Bool) (N:Value->List Atom) (w:World):Ending->World->Prop:=λe w'=>∃x,e=.returned (.bool b)/\Step (QaB E) w w'/\Made M0 E (N x) w w'
def YOk (P:Program) (l:Nat) (E:List Atom) (v:Value) (b:Bool) (N:Value->List Atom):Prop:=∀(M:Blk) (w:World),(∀k,M k->k<w.heap.size)->QfU M E w->QcW E->∃fn tmps assign body,(Instr.yield l #[v]).run P w=.ok (.round l fn tmps assign body) w/\RoundIn Fence.wide 0 P l fn tmps assign body w (RB E M b N w)
def YOk.join {l:Nat} {E:List Atom} {v:Value} {b:Bool} {N:Value->List Atom} (h:YOk P l E v b N):YOk P l [QfV E] v b (λx=>[QfV (N x)]):=λM w hM hE _=>by obtain⟨h1,h2⟩:=QpR hE;obtain⟨fn,tmps,as,body,hr,hR⟩:=h M w hM h1 h2;exact⟨fn,tmps,as,body,hr,RoundIn.mono hR (λe w' ⟨x,he,hs,hm⟩=>⟨x,he,by rw[QhF];exact hs,QuS hm⟩)⟩
def QuT {d:Option Tmp} {ty:TypeId} {pos:String} {af:Array Edge} {g:Option (Nat×Bool)} {f x:Operand} {v:Value} {b:Bool} {l:Nat} {E:List Atom} {N:Value->List Atom} {ts:Array TypeId}
  (hf:Fct Γ f (tv (.func (.yield l) #[] #[]))) (hx:Fct Γ x (tv v)) (hY:YOk P l E v b N):OpJ P ⟨d,.call { callee:=.value f,args:=#[x],argTypes:=ts },ty,pos,af,g⟩ Γ [] E N (λ_=>tv (.bool b)):=by
 intro M w a hM _ hE hap _ he;have hfv:=hf.val (by simp[Op.operands,Call.operands]) he;have hxv:=hx.val (by simp[Op.operands,Call.operands]) he;obtain⟨fn,tmps,as,body,hrun,hR⟩:=hY M w hM hE hap;have hr:(execOp a.eval (⟨d,.call { callee:=.value f,args:=#[x],argTypes:=ts },ty,pos,af,g⟩:Oper)).run P w=.ok (.round l fn tmps as body) w:=by simp only[execOp,resolve,Deferred.ofValue,hfv,map_toArray,Yf,Yu,hxv,Sem.run_bind,Sem.run_pure,Zm,invoke];simpa using hrun
 simp only[Does,hr];refine RoundIn.mono hR ?_;rintro e w' ⟨x,he,h1,h2⟩;exact⟨_,he,x,h1,h2,rfl⟩
def yieldG {l:Nat} {fn:FuncId} {tmps:Array Value} {p:Tmp} {assign body:Code} {D:Nat} {E:List Atom} {b:Bool} {N:Value->List Atom} {v:Value} {Γ:List (Nat×Ty)} (hn:tmps.size=n) (hp:p<n) (hne:(Γ.all λq=>q.1 !=p)=true)
  (h:∀M0 M w a,QbI M0 (Qdb l (Qa6 fn tmps #[p] assign body D) Γ::E) M->St M w n ((p,tv v)::Γ) (Qdb l (Qa6 fn tmps #[p] assign body D) Γ::E) a w->assign.wpIn (Fence.wide.inRound l) 0 P (Exit.then (λa₁ w₁=>∃w₂,(Instr.beginRound l).run P w₁=.ok () w₂/\body.wpIn (Fence.wide.inRound l) 0 P (roundPost P l (RB (Qdb l (Qa6 fn tmps #[p] assign body D) Γ::E) M0 b N w)) a₁ w₂) (λ_ _ _=>False)) a w):
  YOk P l (Qdb l (Qa6 fn tmps #[p] assign body D) Γ::E) v b N:=by
 intro M0 w hM hE hap;have hl:=(hE _ (Zn ..)).1;refine⟨fn,tmps.setIfInBounds p v,assign,body,?_,?_⟩
 ·have:=run_yield (P:=P) (args:=#[v]) hl.1 rfl;simpa[Qa6] using this
 ·obtain⟨M,hpl,hst⟩:=Qqy (a:={ tmps:=tmps.setIfInBounds p v,defers:=[] }) (n:=n) (Γ:=(p,tv v)::Γ) hM hE hap (by simpa using hn) rfl (λq hq=>by
   rcases Zp.1 hq with rfl | hq
   ·show (tmps.setIfInBounds p v).getD p undef=v;simp[hn,hp]
   ·have h1:=hl.2 q hq;have h2:q.1≠p:=by have:=ZH.1 hne q hq;simpa using this
    have e:get { tmps:=tmps.setIfInBounds p v,defers:=[] } q.1=tmps.getD q.1 undef:=by simp[get,Array.getElem?_setIfInBounds_ne (Ne.symm h2)]
    rw[e];exact h1)
  exact roundIn_of_wpIn trivial (h M0 M w _ hpl hst)
inductive Qmd:Code->Exit->Prop where
 | ret:Qmd .ret .ret
 | exit (id:Nat):Qmd (.exit id) (.exit id)
def Qty {l:Nat} {fn:FuncId} {tmps:Array Value} {ps:Array Tmp} {assign body:Code} {D:Nat} {Γl:List (Nat×Ty)} {E:List Atom} {N:Value->List Atom} (x:Value) (is:List Nat) (hpl:QbI M0 E M)
  (hst:St M w0 n Γ (Qdb l { Qa6 fn tmps ps assign body D with state:=.busy } Γl::As) a w) (hd:Qby is=true)
  (hN:is.filterMap (λi=>(Qdb l (Qa6 fn tmps ps assign body D) Γl::As)[i]?)=N x):roundPost P l (RB E M0 true N w0) .normal a w:=
 ⟨_,_,run_endRound none (hst.own _ (Zn ..)).1,x,rfl,Qow is hpl (hst.putL (Qa6 fn tmps ps assign body D) rfl) hd hN⟩
def Qr0 {l:Nat} {fn:FuncId} {tmps:Array Value} {ps:Array Tmp} {assign body:Code} {D:Nat} {Γl:List (Nat×Ty)} {E:List Atom} {N:Value->List Atom} {jump:Code} {jx:Exit} (hj:Qmd jump jx) (x:Value) (is:List Nat) (hpl:QbI M0 E M)
  (hst:St M w0 n Γ (Qdb l { Qa6 fn tmps ps assign body D with state:=.busy } Γl::As) a w) (hd:Qby is=true)
  (hN:is.filterMap (λi=>(Qdb l { Qa6 fn tmps ps assign body D with state:=.done,pending:=some jump } Γl::As)[i]?)=N x):roundPost P l (RB E M0 false N w0) jx a w:=by
 cases hj with
 | ret=>exact⟨_,_,run_endRound (some .ret) (hst.own _ (Zn ..)).1,x,rfl,Qow is hpl (hst.putL { Qa6 fn tmps ps assign body D with state:=.done,pending:=some .ret } rfl) hd hN⟩
 | exit id=>exact⟨_,_,run_endRound (some (.exit id)) (hst.own _ (Zn ..)).1,x,rfl,Qow is hpl (hst.putL { Qa6 fn tmps ps assign body D with state:=.done,pending:=some (.exit id) } rfl) hd hN⟩
def QqA (P:Program) (n:Nat) (Γ:List (Nat×Ty)) {S:Type} (A:S->Value->List Atom) (k:IntKind) (p:Tmp) (assign body:Code) (jx:Exit) (Y:S->Int->Option (S⊕S)):Prop:=
 ∀s g i r,Y s i=some r->∀(M0:Blk) (M:Fr) (w0:World) (a:Act) (l:Nat) (LR LB:Atom) (K:Act->World->Prop) (Q:Exit->Act->World->Prop),(∀F w,LB.ok F w->∃r,w.heap[l]?=some (.loop r))->
  QbI M0 (LR::A s g) M->St M w0 n ((p,tv (.int k i))::Γ) (LR::A s g) a w0->
  (∀Γ' As a w,St M w0 n Γ' (LR::As) a w->(∀w,St M w0 n Γ' (LB::As) a w->body.wpIn (Fence.wide.inRound l) 0 P Q a w)->K a w)->
  (∀s' x Γ' is As a w,r=.inl s'->St M w0 n Γ' (LB::As) a w->Qby is=true->(∀L,is.filterMap (λi=>(L::As)[i]?)=L::A s' x)->Q .normal a w)->
  (∀s' x Γ' is As a w,r=.inr s'->St M w0 n Γ' (LB::As) a w->Qby is=true->(∀L,is.filterMap (λi=>(L::As)[i]?)=L::A s' x)->Q jx a w)->
  assign.wpIn (Fence.wide.inRound l) 0 P (Exit.then K (λ_ _ _=>False)) a w0
def Qp7 (P:Program) (f1:FuncId) (Tc:List Ty) (k:IntKind) {S:Type} (Y:S->Int->Option (S⊕S)) (s0:S) (t:S⊕S):Prop:=∀(l:Nat) (W:S⊕S->Value->Atom) (g0:Value),(∀s g i r,Y s i=some r->YOk P l [W (.inl s) g] (.int k i) r.isLeft (λx=>[W r x]))->∃T,FnOk P f1 (tv (.func (.yield l) #[] #[])::Tc) [W (.inl s0) g0] (λx=>[W t x]) T
section
variable {S:Type} {A:S->Value->List Atom} {k:IntKind} {p:Tmp} {assign body:Code} {jump:Code} {jx:Exit} {Y:S->Int->Option (S⊕S)} {s0:S} {g0:Value} {t:S⊕S} {f1:FuncId} {Tc:List Ty} {g:Operand}
def recW (A:S->Value->List Atom) (l:Nat) (r:Loop) (jump:Code) (Γ:List (Nat×Ty)):S⊕S->Value->List Atom
 | .inl s,x=>Qdb l r Γ::A s x
 | .inr s,x=>Qdb l { r with state:=.done,pending:=some jump } Γ::A s x
def QnF {fn:FuncId} {D l:Nat} {ex:List Atom} {tm:Array Value} (htm:a.tmps=tm) (hj:Qmd jump jx) (hst:St M w0 n Γ ((Qdb l (Qa6 fn tm #[p] assign body D) Γ::A s0 g0)++ex) a w)
  (hg:Fct Γ g (QaZ f1 Tc)) (hseq:Qp7 P f1 Tc k Y s0 t) (hp:p<n) (hne:(Γ.all λq=>q.1 !=p)=true) (hbody:QqA P n Γ A k p assign body jx Y):
  ∃caps:List Value,a.eval g=.func (.func f1) #[] caps.toArray/\CallsIn Fence.wide 0 P f1 (#[.func (.yield l) #[] #[]]++caps.toArray) w (λe w'=>∃v x,e=.returned v/\St M w0 n Γ (recW A l (Qa6 fn tm #[p] assign body D) jump Γ t x++ex) a w'):=by
 obtain⟨caps,hgv,hcap⟩:=hg _ _ a (λp hp _=>hst.Xq p hp);refine⟨caps,hgv,callsIn_wide.2 ?_⟩;obtain⟨T,hcall⟩:=hseq l (λr x=>QfV (recW A l (Qa6 fn tm #[p] assign body D) jump Γ r x)) g0 (λs g i r hY=>by
  refine (yieldG (Γ:=Γ) (b:=r.isLeft) (N:=λx=>recW A l (Qa6 fn tm #[p] assign body D) jump Γ r x) (htm▸hst.size) hp hne (λM0 M w a hpl hst'=>?_)).join;refine hbody s g i r hY M0 M w a l _ (Qdb l { Qa6 fn tm #[p] assign body D with state:=.busy } Γ) _ _ (λF w h=>⟨_,h.1⟩) hpl hst' (λΓ' As a w1 h1 h2=>QrZ h1 rfl h2) ?_ ?_
  ·rintro s' x Γ' is As a w1 rfl h1 hd hN;exact Qty x is hpl h1 hd (hN _)
  ·rintro s' x Γ' is As a w1 rfl h1 hd hN;exact Qr0 hj x is hpl h1 hd (hN _))
 have hcall:=(FnOk.unjoin hcall) (hold M.m ((Qdb l (Qa6 fn tm #[p] assign body D) Γ::A s0 g0)++ex)) w (.func (.yield l) #[] #[]::caps) ?_ ?_ ?_ ?_
 ·refine Calls.mono (by simpa using hcall) ?_;rintro e w' ⟨x,v,rfl,hs,hm,_⟩;exact⟨v,x,rfl,hst.called hs hm⟩
 ·intro k hk;rcases hk with hk | ⟨A,hA,hk⟩
  ·exact ZK (hst.m0 k hk).1 hst.grow.size
  ·exact (hst.fresh A hA k hk).2
 ·intro A hA;exact⟨hst.own A (mem_append_left _ hA),λk hk=>.inr ⟨A,mem_append_left _ hA,hk⟩⟩
 ·exact (pairwise_append.1 hst.apart).1
 ·exact .cons rfl hcap
def QuU {Q:Exit->Act->World->Prop} (hj:Qmd jump jx) (hst:St M w0 n Γ (A s0 g0) a w) (hg:Fct Γ g (QaZ f1 Tc)) (hc:Qh P f1) (hseq:Qp7 P f1 Tc k Y s0 t) (hp:p<n) (hne:(Γ.all λq=>q.1 !=p)=true)
  (hbody:QqA P n Γ A k p assign body jx Y)
  (hQ:∀s x D a' w' M',t=.inl s->(∀M0 E,QbI M0 E M->QjY M0 E D M')->St M' w0 n Γ (objA D defO::A s x) a' w'->Q .normal a' w')
  (hX:∀s x D a' w' M',t=.inr s->(∀M0 E,QbI M0 E M->QjY M0 E D M')->St M' w0 n Γ (objA D defO::A s x) a' w'->Q jx a' w'):(Code.rangeFunc g #[p] assign body).wp P Q a w:=by
 refine (wpIn_wide (n:=0)).1 (wpIn_rangeFunc λfn _=>?_);have h1:=hst.lay defO;have h2:St M w0 n Γ (Qdb (w.alloc defO).heap.size (Qa6 fn a.tmps #[p] assign body w.heap.size) Γ::objA w.heap.size defO::A s0 g0) a ((w.alloc defO).alloc (.loop (Qa6 fn a.tmps #[p] assign body w.heap.size))):=h1.layA (.loop (Qa6 fn a.tmps #[p] assign body w.heap.size)) (λ_=>Iff.rfl) (λF w' hF hh h=>⟨h,λp hp=>p.2.keep hF (λk hk=>hh k hk.1) (h1.Xq p hp)⟩);rw[World.size_alloc] at h2;obtain⟨fn1,hf1,hf2,hf3⟩:=hc;have h3:=h2.perm (Bs:=(Qdb (w.heap.size+1) (Qa6 fn a.tmps #[p] assign body w.heap.size) Γ::A s0 g0)++[objA w.heap.size defO]) (by refine Perm.cons _ ?_;exact (perm_append_comm (l₁:=[objA w.heap.size defO]) (l₂:=A s0 g0)));have hW:∃W,(w.alloc defO).alloc (.loop (Qa6 fn a.tmps #[p] assign body w.heap.size))=W:=⟨_,rfl⟩;obtain⟨W,hW⟩:=hW;have hen:=run_enterLoop_outer (P:=P) (w:=w) fn a.tmps #[p] assign body
 change _=Result.ok _ ((w.alloc defO).alloc (.loop (Qa6 fn a.tmps #[p] assign body w.heap.size))) at hen
 rw[hW] at h2 h3 hen;obtain⟨caps,hgv,hcalls⟩:=QnF (jump:=jump) rfl hj h3 hg hseq hp hne hbody;refine⟨w.heap.size+1,[mark w.heap.size],W,{ target:=.fn (.func f1) caps.toArray,args:=#[.func (.yield (w.heap.size+1)) #[] #[]] },W,f1,#[.func (.yield (w.heap.size+1)) #[] #[]]++caps.toArray,W,hen,?_,λ_ _=>trivial,?_,λhh=>(by cases hh),?_⟩
 ·simp[resolve,Deferred.ofValue,hgv];rfl
 ·simp only[invoke,callFunc,Sem.run_bind,Sem.run_pure,run_program,Zm,hf1,hf2,hf3,ZB,if_false]
 ·refine callsIn_wide.2 (Calls.mono (callsIn_wide.1 hcalls) ?_);rintro e w' ⟨v,x,rfl,h4⟩;have fin:∀(As:List Atom) (w'':World),St M w0 n Γ (As++[objA w.heap.size defO]) a w''->∃M',(∀M0 E,QbI M0 E M->QjY M0 E w.heap.size M')/\St M' w0 n Γ (objA w.heap.size defO::As) { a with defers:=[mark w.heap.size]++a.defers } w'':=λAs w'' h5=>by
   have h6:=h5.perm (Bs:=objA w.heap.size defO::As) (perm_append_comm (l₁:=As) (l₂:=[objA w.heap.size defO]));exact⟨⟨M.m,M.b,[mark w.heap.size]++M.d⟩,λM0 E hpl=>⟨hpl.b,hpl.m,hpl.d,by simp[hpl.e]⟩,⟨h6.size,by simp[h6.defers],h6.grow,h6.m0,h6.own,h6.fresh,h6.apart,h6.Xq⟩⟩
  cases t with
  | inl s=>refine⟨none,_,run_endLoop (h4.own _ (Zn ..)).1 (by simp[Qa6]),?_⟩;obtain⟨M',hM',h5⟩:=fin (A s x) _ ((h4.putL { Qa6 fn a.tmps #[p] assign body w.heap.size with state:=.exhausted } rfl).sub (sublist_cons_self ..));exact hQ s x _ _ _ M' rfl hM' h5
  | inr s=>
   refine⟨some jump,_,run_endLoop (h4.own _ (Zn ..)).1 (by simp),?_⟩;obtain⟨M',hM',h5⟩:=fin (A s x) _ ((h4.putL { Qa6 fn a.tmps #[p] assign body w.heap.size with state:=.exhausted,pending:=some jump } rfl).sub (sublist_cons_self ..));have:=hX s x _ _ _ M' rfl hM' h5
   cases hj with
   | ret=>exact wpIn_ret this
   | exit id=>exact wpIn_exit this
def Qtz {l₀:Nat} {LB:Atom} {Q:Exit->Act->World->Prop} (hj:Qmd jump jx) (hLB:∀F w,LB.ok F w->∃r,w.heap[l₀]?=some (.loop r)) (hm:LB∈A s0 g0) (hst:St M w0 n Γ (A s0 g0) a w) (hg:Fct Γ g (QaZ f1 Tc)) (hc:Qh P f1) (hseq:Qp7 P f1 Tc k Y s0 t) (hp:p<n) (hne:(Γ.all λq=>q.1 !=p)=true)
  (hbody:QqA P n Γ A k p assign body jx Y)
  (hQ:∀s x w',t=.inl s->St M w0 n Γ (A s x) a w'->Q .normal a w')
  (hX:∀s x w',t=.inr s->St M w0 n Γ (A s x) a w'->Q jx a w'):(Code.rangeFunc g #[p] assign body).wpIn (Fence.wide.inRound l₀) 0 P Q a w:=by
 obtain⟨r₀,hr₀⟩:=hLB _ _ (hst.own _ hm);refine wpIn_rangeFunc λfn _=>?_;have h2:St M w0 n Γ (Qdb w.heap.size (Qa6 fn a.tmps #[p] assign body r₀.defers) Γ::A s0 g0) a (w.alloc (.loop (Qa6 fn a.tmps #[p] assign body r₀.defers))):=hst.layA (.loop (Qa6 fn a.tmps #[p] assign body r₀.defers)) (λ_=>Iff.rfl) (λF w' hF hh h=>⟨h,λp hp=>p.2.keep hF (λk hk=>hh k hk.1) (hst.Xq p hp)⟩);obtain⟨fn1,hf1,hf2,hf3⟩:=hc;have h3:St M w0 n Γ ((Qdb w.heap.size (Qa6 fn a.tmps #[p] assign body r₀.defers) Γ::A s0 g0)++[]) a (w.alloc (.loop (Qa6 fn a.tmps #[p] assign body r₀.defers))):=by rw[Yh];exact h2
 have hW:∃W,w.alloc (.loop (Qa6 fn a.tmps #[p] assign body r₀.defers))=W:=⟨_,rfl⟩;obtain⟨W,hW⟩:=hW;have hen:=run_enterLoop_inner (P:=P) (w:=w) hr₀ fn a.tmps #[p] assign body
 change _=Result.ok _ (w.alloc (.loop (Qa6 fn a.tmps #[p] assign body r₀.defers))) at hen
 rw[hW] at h2 h3 hen;obtain⟨caps,hgv,hcalls⟩:=QnF (jump:=jump) rfl hj h3 hg hseq hp hne hbody;refine⟨w.heap.size,[],W,{ target:=.fn (.func f1) caps.toArray,args:=#[.func (.yield w.heap.size) #[] #[]] },W,f1,#[.func (.yield w.heap.size) #[] #[]]++caps.toArray,W,hen,?_,λ_ _=>trivial,?_,λhh=>(by cases hh),?_⟩
 ·simp[resolve,Deferred.ofValue,hgv];rfl
 ·simp only[invoke,callFunc,Sem.run_bind,Sem.run_pure,run_program,Zm,hf1,hf2,hf3,ZB,if_false]
 ·refine CallsIn.inRound l₀ (callsIn_wide.2 (Calls.mono (callsIn_wide.1 hcalls) ?_));rintro e w' ⟨v,x,rfl,h4⟩;rw[Yh] at h4
  cases t with
  | inl s=>refine⟨none,_,run_endLoop (h4.own _ (Zn ..)).1 (by simp[Qa6]),?_⟩;exact hQ s x _ rfl ((h4.putL { Qa6 fn a.tmps #[p] assign body r₀.defers with state:=.exhausted } rfl).sub (sublist_cons_self ..))
  | inr s=>
   refine⟨some jump,_,run_endLoop (h4.own _ (Zn ..)).1 (by simp),?_⟩;have:=hX s x _ rfl ((h4.putL { Qa6 fn a.tmps #[p] assign body r₀.defers with state:=.exhausted,pending:=some jump } rfl).sub (sublist_cons_self ..))
   cases hj with
   | ret=>exact wpIn_ret this
   | exit id=>exact wpIn_exit this
end
section
variable {l m:Nat} {F:Fence} {Q:Exit->Act->World->Prop}
def Qf2 {s:Nat} {b:Bool} {x y:Code} (i:Nat) (hst:St M w0 n Γ As a w) (hi:Γ[i]?=some (s,tv (.bool b))) (ht:b=true->x.wpIn F m P Q a w) (hf:b=false->y.wpIn F m P Q a w):(Code.cond (.tmp s) x y).wpIn F m P Q a w:=by have hv:a.eval (.tmp s)=.bool b:=hst.Xq (s,tv (.bool b)) (Zr hi);exact wpIn_cond_split hv ht hf
def Qlq {σ ρ:Type} {c:Code} (body:σ->Option (σ⊕ρ)) (I:σ->Act->World->Prop) (out:ρ) (s0:σ) (h:Qm body s0=some out) (h0:I s0 a w)
  (round:∀s o a w (K:Act->World->Prop),I s a w->body s=some o->(∀r,o=.inr r->r=out)->(∀s' a w,o=.inl s'->I s' a w->K a w)->c.wpIn F m P (Exit.then K Q) a w):(Code.loop c).wpIn F m P Q a w:=by
 obtain⟨n,hn⟩:=QcH.1 h;intro b k cs hro hb hr;have key:∀n s a w,iter body n s=some out->I s a w->∃e a' w',Q e a' w'/\ArrivesIn (Machine.fenced P F) P (lone (b.atR a (.code c::.inLoop c::k)) cs w) b k cs e a' w':=by
  intro n
  induction n with
  | zero=>intro s a w h;cases h
  | succ n ih=>
   intro s a w h hI;simp only[iter] at h
   cases hbo:body s with
   | none=>rw[hbo] at h;cases h
   | some o=>
    rw[hbo] at h;obtain⟨e,a₁,w₁,hq,harr⟩:=round s o a w (λa' w'=>∃s',o=.inl s'/\I s' a' w') hI hbo (by rintro r rfl;simpa using h) (λs' _ _ h1 h2=>⟨s',h1,h2⟩) b (.inLoop c::k) cs hro hb hr
    cases e with
    | normal=>obtain⟨s',rfl,hI'⟩:=hq;obtain⟨e₂,a₂,w₂,hq₂,harr₂⟩:=ih s' a₁ w₁ h hI';exact⟨e₂,a₂,w₂,hq₂,.of_steps (StepsIn.trans harr (.one (fenced_calm hb hr rfl) stepR_inLoop)) harr₂⟩
    | exit id=>exact⟨_,a₁,w₁,hq,.pass (x:=.inLoop c) rfl (λ_ _=>.inl (by simp)) harr⟩
    | goto l=>exact⟨_,a₁,w₁,hq,.pass (x:=.inLoop c) rfl (λ_ _=>.inl (by simp)) harr⟩
    | ret=>exact⟨_,a₁,w₁,hq,.pass (x:=.inLoop c) rfl (λ_ _=>.inl (by simp)) harr⟩
    | panic ch=>exact⟨_,a₁,w₁,hq,.pass (x:=.inLoop c) rfl (λ_ _=>.inl (by simp)) harr⟩
    | outgrown=>exact⟨_,a₁,w₁,hq,.pass (x:=.inLoop c) rfl (λ_ _=>.inl (by simp)) harr⟩
 obtain⟨e,a',w',hq,harr⟩:=key n s0 a w hn h0;exact⟨e,a',w',hq,.of_steps (.one (fenced_calm hb hr rfl) stepR_loop) harr⟩
def Qaw {x y:Code} (h:∀K:Act->World->Prop,(∀a w,y.wpIn F m P Q a w->K a w)->x.wpIn F m P (Exit.then K Q) a w):(Code.seq x y).wpIn F m P Q a w:=wpIn_seq_k h
def Qf3 (h:Q .normal a w):Code.skip.wpIn F m P Q a w:=wpIn_skip h
def QhG {id:Nat} (h:Q (.exit id) a w):(Code.exit id).wpIn F m P Q a w:=wpIn_exit h
def Qei {id:Nat} {c:Code} (h:c.wpIn F m P (Exit.inBlock id Q) a w):(Code.block id c).wpIn F m P Q a w:=wpIn_block h
def Qa3 {ops:List Oper} {l:Nat} {id:Nat} {draw:Bool} {is:List Info} (hm:P.follows .mixedOrders=true) (Ns:List Ver)
  (hst:St M w0 n Γ As a w) (hrun:∀new,Run P ops (verA As Ns) new 0 Γ ops is) (hchk:(Qsz ops&&chk ops is ((verA As Ns).map (·.ds)) (Γ.map (·.1)) As.length (verA As Ns).length n)=true)
  (hQ:∀new a' w',St M w0 n (outG ops is Γ new) (Qef (verA As Ns) is new) a' w'->Q .normal a' w'):(Code.region id ops.toArray draw).wpIn (Fence.wide.inRound l) 0 P Q a w:=
 wp_rgR hm (by have:=hchk;simp only[Zi] at this;exact this.1) Ns hst hrun (by have:=hchk;simp only[Zi] at this;exact this.2) hQ
end
def QtA {fn:Func} {rs:List ResultVar} {Ts:List Ty} {E:List Atom} {N:Value->List Atom} {T:Value->Ty} {D:Nat} (x:Value) (is:List Nat) (hpl:QjY M0 E D M) (hst:St M w0 n Γ (objA D defO::As) a w) (hrs:fn.results=rs.toArray) (h:Qdm P Γ (objA D (.deferred none)::As) rs Ts) (hd:Qby is=true) (hN:is.filterMap (λi=>(objA D (.deferred none)::As)[i]?)=N x) (hT:T x=QhS Ts):RetM P fn M0 E w0 N T .ret a w:=show RetM P fn M0 E w0 N T .normal a w from QuQ x is hpl hst hrs h hd hN hT
end
def Qzv {α:Type} {R:Rep α} {xs:List α}:One (tsn R xs):=λF w v h=>Qb0 F w v h.1
@[reducible] def rSn {α : Type} (R : Rep α) : Rep (List α) := ⟨λx => [tsn R x],1,false,λ_ => rfl,λx T h F w v hv => by simp at h; subst h; exact Qzv F w v hv,λ_ => rfl⟩
theorem Qxn {Ts:List Ty}:One (tptr Ts):=λF w v h=>by obtain⟨b,off,hv,_⟩:=h;rw[hv];rfl
@[reducible] def rPtr {α : Type} (R : Rep α) : Rep α := ⟨λx => [tptr (R.cs x)],1,false,λ_ => rfl,λx T h F w v hv => by simp at h; subst h; exact Qxn F w v hv,λ_ => rfl⟩
section
variable {α:Type} {R:Rep α} {e:TypeId} {xs ys zs:List α} {v:Value}
def ownN (R:Rep α) (e:TypeId) (xs:List α) (v:Value):Atom:=⟨(own R e xs v).fp,λF w=>(own R e xs v).ok F w/\(xs=[]->v=nilV),λhF hh hf h=>⟨(own R e xs v).keep hF hh hf h.1,h.2⟩⟩
def Qks:QaB [ownN R e xs v]=QaB [own R e xs v]:=by funext k;exact propext (by rw[Qap,Qap];exact Iff.rfl)
def Qph {M:Blk} {v':Value}:next M [ownN R e xs v] [ownN R e zs v']=next M [own R e xs v] [own R e zs v']:=by unfold next;rw[Qks,Qks]
section
variable {P:Program} {o:Oper} {Γ:List (Nat×Ty)} {U E:List Atom} {N:Value->List Atom} {T:Value->Ty}
def _root_.Go.Sim.OpJ.useN (h:OpJ P o Γ (own R e xs v::U) E N T):OpJ P o Γ (ownN R e xs v::U) E N T:=OpJ.Xw (λ_ _ h=>h.1) (λ_ h=>h) h
def _root_.Go.Sim.OpJ.eatN (h:OpJ P o Γ U [own R e xs v] (λx=>[own R e zs x]) T) (hz:zs≠[]):OpJ P o Γ U [ownN R e xs v] (λx=>[ownN R e zs x]) T:=by
 intro M w a hM hU hE hap hUE he;have hg:=hE _ (Zh.2 rfl);refine (h M w a hM hU (λA hA=>by obtain rfl:=Zh.1 hA;exact⟨hg.1.1,hg.2⟩) (pairwise_singleton _ _) (λA hA B hB k hk hkB=>by obtain rfl:=Zh.1 hB;exact hUE A hA _ (Zh.2 rfl) k hk hkB) he).mono ?_;rintro u w' ⟨x,hs,hm,ht⟩;refine⟨x,by rw[Qks];exact hs,⟨pairwise_singleton _ _,λA hA k hk=>?_,λA hA=>?_⟩,by rw[Qph];exact ht⟩
 ·obtain rfl:=Zh.1 hA;rw[Qks];exact hm.place _ (Zh.2 rfl) k hk
 ·obtain rfl:=Zh.1 hA;rw[Qph];exact⟨hm.ok _ (Zh.2 rfl),λhn=>(hz hn).elim⟩
end
def Qxo {F:Blk} {w:World} (h:(ownN R e xs v).ok F w):∃ad n c,v=.slice ad n c/\ad.isNone=xs.isEmpty:=by
 rcases QaP h.1 with⟨hv,hn⟩ | ⟨b,cap,cur,hv,_⟩
 ·exact⟨none,0,0,hv,by rw[hn];rfl⟩
 ·refine⟨_,_,_,hv,?_⟩
  cases xs with
  | nil=>have:=h.2 rfl;rw[hv] at this;cases this
  | cons x xs=>rfl
section
variable {Γ:List (Nat×Ty)} {P:Program} {d:Option Tmp} {ty:TypeId} {pos:String} {af:Array Edge} {g:Option (Nat×Bool)} {x:Operand} {t e':TypeId}
def QuV {t2:TypeId} (ht:P.underlying t=some (.slice e')) (hx:Fct Γ x (tv v)):OpJ P ⟨d,.binOp .neq t x (.const (.slice none 0 0)) t2,ty,pos,af,g⟩ Γ [ownN R e xs v] [] (λ_=>[]) (λ_=>tv (.bool !xs.isEmpty)):=Qdk λM w a hU he=>by obtain⟨ad,n,c,hv,hn⟩:=Qxo (hU _ (Zh.2 rfl));have hx:=hx.val (by simp[Op.operands]) he;refine⟨.bool !ad.isNone,?_,by rw[hn];rfl⟩;simp[execOp,hx,hv,Qgu,eqGuard,binOp,QgZ ht]
end
section
variable {M:Fr} {w0:World} {n:Nat} {Γ:List (Nat×Ty)} {A B:Atom} {As:List Atom} {a:Act} {w:World}
def St.reA (hfp:B.fp=A.fp) (hok:∀F w,A.ok F w->B.ok F w) (h:St M w0 n Γ (A::As) a w):St M w0 n Γ (B::As) a w:=by
 have e:fps (B::As)=fps (A::As):=by funext j;unfold fps;simp[hfp]
 have e2:hold M.m (B::As)=hold M.m (A::As):=by unfold hold;rw[e]
 refine⟨h.size,h.defers,h.grow,h.m0,?_,?_,?_,by rw[e2];exact h.Xq⟩
 ·rw[e2];intro Z hZ;rcases Zp.1 hZ with rfl | hZ
  ·exact hok _ _ (h.own A (by simp))
  ·exact h.own Z (by simp[hZ])
 ·intro Z hZ;rcases Zp.1 hZ with rfl | hZ
  ·rw[hfp];exact h.fresh A (by simp)
  ·exact h.fresh Z (by simp[hZ])
 ·have ha:=h.apart;unfold QcW at ha ⊢;rw[pairwise_cons] at ha ⊢;refine⟨λZ hZ=>?_,ha.2⟩;rw[hfp];exact ha.1 Z hZ
def St.unN (h:St M w0 n Γ (ownN R e xs v::As) a w):St M w0 n Γ (Sim.own R e xs v::As) a w:=St.reA (A:=ownN R e xs v) (B:=Sim.own R e xs v) rfl (λ_ _ h=>h.1) h
def St.nilN (R:Rep α) (e:TypeId) (h:St M w0 n Γ As a w):St M w0 n Γ (ownN R e ([]:List α) nilV::As) a w:=St.reA (A:=Sim.own R e ([]:List α) (.slice none 0 0)) (B:=ownN R e ([]:List α) nilV) rfl (λ_ _ h=>⟨h,λ_=>rfl⟩) (h.nil R e)
end
end

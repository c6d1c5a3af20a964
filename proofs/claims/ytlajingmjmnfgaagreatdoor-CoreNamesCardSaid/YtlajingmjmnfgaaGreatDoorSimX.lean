/- The logic's part on a range over a function. No condition. -/
import Derived.Test.YtlajingmjmnfgaaGreatDoorSimL
import Derived.RangeFuncRecord
import Derived.MapKept
import Derived.Laws.Cover3
import Derived.Deep.AppendSrc
import Derived.RangeFuncNested
set_option linter.all false
open List
namespace Go.Sim
def objA (b:Nat) (o:Obj):Atom:=⟨λk=>k=b,λ_ w=>w.heap[b]?=some o,λ_ _ hf h=>(hf b rfl).trans h⟩
def QdM (l:Nat) (r:Loop) (Γ:List (Nat×Ty)):Atom:=⟨λk=>k=l,λF w=>w.heap[l]?=some (.loop r)/\∀p∈Γ,p.2.ok F w (r.tmps.getD p.1 undef),λhF hh hf h=>⟨(hf l rfl).trans h.1,λp hp=>p.2.keep hF hh (h.2 p hp)⟩⟩
def Qbk (fn:FuncId) (tmps:Array Value) (ps:Array Tmp) (assign body:Code) (D:Nat):Loop:={ state:=.ready,pending:=none,fn,tmps,params:=ps,assign,body,defers:=D }
def mark (D:Nat):Deferred:={ target:=.collected D,args:=#[] }
abbrev defO:Obj:=.deferred (some [])
section
variable {P:Program} {M:Fr} {M0:Blk} {w0:World} {n:Nat} {Γ:List (Nat×Ty)} {As:List Atom} {a:Act} {w:World}
def St.putA {b:Nat} {o':Obj} {A A':Atom} (h:St M w0 n Γ (A::As) a w) (hA:∀k,A.fp k↔k=b) (hA':∀k,A'.fp k↔k=b)
  (hok:∀(F F':Blk) (w w':World),(∀k,F k->F' k)->(∀k,F k->w'.heap[k]?=w.heap[k]?)->w'.heap[b]?=some o'->A.ok F w->A'.ok F' w'):St M w0 n Γ (A'::As) a (w.putObj b o'):=by
 have hb:=h.fresh A (by simp) b ((hA b).2 rfl);have hfps:∀k,hold M.m (A'::As) k->hold M.m (A::As) k:=by
  rintro k (hk | ⟨B,hB,hk⟩)
  ·exact .inl hk
  ·rcases Zo.1 hB with rfl | hB
   ·exact .inr ⟨A,Zp ..,(hA k).2 ((hA' k).1 hk)⟩
   ·exact .inr ⟨B,ZP _ hB,hk⟩
 have hfree:∀k,free (hold M.m (A::As)) w k->free (hold M.m (A'::As)) (w.putObj b o') k:=λk ⟨h1,h2⟩=>⟨by simpa using h1,λhh=>h2 (hfps k hh)⟩;have hsame:∀k,k≠b->(w.putObj b o').heap[k]?=w.heap[k]?:=λk hk=>World.putObj_heap_other hk;have hnb:∀k,free (hold M.m (A::As)) w k->k≠b:=λk h2 e=>h2.2 (.inr ⟨A,Zp ..,(hA k).2 e⟩);have hap:=pairwise_cons.1 h.apart;refine⟨h.size,h.defers,?_,h.m0,?_,?_,pairwise_cons.2 ⟨λB hB k hk=>hap.1 B hB k ((hA k).2 ((hA' k).1 hk)),hap.2⟩,λp hp=>p.2.keep hfree (λk hk=>hsame k (hnb k hk)) (h.Xq p hp)⟩
 ·refine h.grow.trans (C:=λk=>k=b) ⟨rfl,rfl,rfl,by simp,λk _ hk=>hsame k hk⟩ ?_;rintro i rfl hi;rcases hb.1 with h1 | h1
  ·exact h1
  ·omega
 ·intro B hB;rcases Zo.1 hB with rfl | hB
  ·exact hok _ _ _ _ hfree (λk hk=>hsame k (hnb k hk)) (World.putObj_heap_same hb.2) (h.own A (Zp ..))
  ·exact B.keep hfree (λk hk=>hsame k (hnb k hk)) (λk hk=>hsame k (λe=>hap.1 B hB b ((hA b).2 rfl) (e▸hk))) (h.own B (ZP _ hB))
 ·intro B hB k hk;rw[World.putObj_size];rcases Zo.1 hB with rfl | hB
  ·exact h.fresh A (Zp ..) k ((hA k).2 ((hA' k).1 hk))
  ·exact h.fresh B (ZP _ hB) k hk
def St.putO {b:Nat} {o:Obj} (o':Obj) (h:St M w0 n Γ (objA b o::As) a w):St M w0 n Γ (objA b o'::As) a (w.putObj b o'):=h.putA (λ_=>Iff.rfl) (λ_=>Iff.rfl) (λ_ _ _ _ _ _ h _=>h)
def St.putL {b:Nat} {r:Loop} {Γl:List (Nat×Ty)} (r':Loop) (h:St M w0 n Γ (QdM b r Γl::As) a w) (he:r'.tmps=r.tmps):St M w0 n Γ (QdM b r' Γl::As) a (w.putObj b (.loop r')):=h.putA (λ_=>Iff.rfl) (λ_=>Iff.rfl) (λ_ _ _ _ hF hh h1 h2=>⟨h1,λp hp=>by rw[he];exact p.2.keep hF hh (h2.2 p hp)⟩)
def St.layA {A:Atom} (o:Obj) (h:St M w0 n Γ As a w) (hA:∀k,A.fp k↔k=w.heap.size) (hok:∀(F:Blk) (w':World),(∀k,free (hold M.m As) w k->F k)->(∀k,k<w.heap.size->w'.heap[k]?=w.heap[k]?)->w'.heap[w.heap.size]?=some o->A.ok F w'):St M w0 n Γ (A::As) a (w.alloc o):=by
 have hlt:∀A∈As,∀k,A.fp k->k<w.heap.size:=λA hA k hk=>(h.fresh A hA k hk).2;have hfree:∀k,free (hold M.m As) w k->free (hold M.m (A::As)) (w.alloc o) k:=by
  rintro k ⟨h1,h2⟩;refine⟨by simp;omega,?_⟩;rintro (hk | ⟨B,hB,hk⟩)
  ·exact h2 (.inl hk)
  ·rcases Zo.1 hB with rfl | hB
   ·exact absurd ((hA k).1 hk) (Nat.ne_of_lt h1)
   ·exact h2 (.inr ⟨B,hB,hk⟩)
 have hsame:∀k,k<w.heap.size->(w.alloc o).heap[k]?=w.heap[k]?:=λk hk=>Go.RowKit.Below.heap_alloc w o k hk;refine⟨h.size,h.defers,h.grow.trans (Step.alloc w o) (λ_ hh=>hh.elim),h.m0,?_,?_,pairwise_cons.2 ⟨?_,h.apart⟩,λp hp=>p.2.keep hfree (λk hk=>hsame k hk.1) (h.Xq p hp)⟩
 ·intro B hB;rcases Zo.1 hB with rfl | hB
  ·exact hok _ _ hfree hsame (World.alloc_heap_new w o)
  ·exact B.keep hfree (λk hk=>hsame k hk.1) (λk hk=>hsame k (hlt B hB k hk)) (h.own B hB)
 ·intro B hB k hk;rcases Zo.1 hB with rfl | hB
  ·obtain rfl:k=w.heap.size:=(hA k).1 hk;exact⟨.inr h.grow.size,by simp⟩
  ·have:=h.fresh B hB k hk;exact⟨this.1,by simp;omega⟩
 ·intro B hB k hk hkB;obtain rfl:k=w.heap.size:=(hA k).1 hk;exact absurd (hlt B hB _ hkB) (Nat.lt_irrefl _)
def St.lay (o:Obj) (h:St M w0 n Γ As a w):St M w0 n Γ (objA w.heap.size o::As) a (w.alloc o):=h.layA o (λ_=>Iff.rfl) (λ_ _ _ _ h=>h)
def St.called {E R N:List Atom} {w':World} (h:St M w0 n Γ (E++R) a w) (hs:Step (Qaz E) w w') (hm:Made (hold M.m (E++R)) E N w w'):St M w0 n Γ (N++R) a w':=by
 have hap:=pairwise_append.1 h.apart;have hfE:∀k,Qaz E k->(M.b k\/w0.heap.size<=k)/\k<w.heap.size:=λk ⟨A,hA,hk⟩=>h.fresh A (mem_append_left _ hA) k hk;have hmE:∀k,M.m k->¬Qaz E k:=λk hk he=>by
  have h0:=h.m0 k hk;rcases (hfE k he).1 with h1 | h1
  ·exact h0.2 h1
  ·have:=h0.1;omega
 have hnext:∀k,next (hold M.m (E++R)) E N k↔hold M.m (N++R) k:=by
  intro k;constructor
  ·rintro (⟨hk | ⟨A,hA,hk⟩,hne⟩ | ⟨A,hA,hk⟩)
   ·exact .inl hk
   ·rcases ZF.1 hA with hA | hA
    ·exact (hne ⟨A,hA,hk⟩).elim
    ·exact .inr ⟨A,mem_append_right _ hA,hk⟩
   ·exact .inr ⟨A,mem_append_left _ hA,hk⟩
  ·rintro (hk | ⟨A,hA,hk⟩)
   ·exact .inl ⟨.inl hk,hmE k hk⟩
   ·rcases ZF.1 hA with hA | hA
    ·exact .inr ⟨A,hA,hk⟩
    ·exact .inl ⟨.inr ⟨A,mem_append_right _ hA,hk⟩,λ⟨B,hB,hkB⟩=>hap.2.2 B hB A hA k hkB hk⟩
 have hfree:∀k,free (hold M.m (E++R)) w k->free (hold M.m (N++R)) w' k:=by
  rintro k ⟨h1,h2⟩;refine⟨ZB h1 hs.size,λhh=>?_⟩;rcases (hnext k).2 hh with⟨hk,_⟩ | ⟨A,hA,hk⟩
  ·exact h2 hk
  ·rcases (hm.place A hA k hk).1 with⟨B,hB,hkB⟩ | hge
   ·exact h2 (.inr ⟨B,mem_append_left _ hB,hkB⟩)
   ·omega
 have hsame:∀k,free (hold M.m (E++R)) w k->w'.heap[k]?=w.heap[k]?:=λk ⟨h1,h2⟩=>hs.same k h1 (λ⟨A,hA,hk⟩=>h2 (.inr ⟨A,mem_append_left _ hA,hk⟩));have hfresh:∀A∈N++R,∀k,A.fp k->(M.b k\/w0.heap.size<=k)/\k<w'.heap.size:=by
  intro A hA k hk;rcases ZF.1 hA with hA | hA
  ·obtain⟨h1,h2⟩:=hm.place A hA k hk;refine⟨?_,h2⟩;rcases h1 with h1 | h1
   ·exact (hfE k h1).1
   ·exact .inr (Yg h.grow.size h1)
  ·have:=h.fresh A (mem_append_right _ hA) k hk;exact⟨this.1,ZB this.2 hs.size⟩
 refine⟨h.size,h.defers,h.grow.trans hs (λi hi hlt=>?_),h.m0,?_,hfresh,pairwise_append.2 ⟨hm.apart,hap.2.1,?_⟩,λp hp=>p.2.keep hfree hsame (h.Xq p hp)⟩
 ·rcases (hfE i hi).1 with h1 | h1
  ·exact h1
  ·omega
 ·intro A hA;rcases ZF.1 hA with hA | hA
  ·exact A.keep (λk ⟨h1,h2⟩=>⟨h1,λhh=>h2 ((hnext k).2 hh)⟩) (λ_ _=>rfl) (λ_ _=>rfl) (hm.ok A hA)
  ·refine A.keep hfree hsame (λk hk=>hs.same k (h.fresh A (mem_append_right _ hA) k hk).2 ?_) (h.own A (mem_append_right _ hA));rintro ⟨B,hB,hkB⟩;exact hap.2.2 B hB A hA k hkB hk
 ·intro A hA B hB k hk hkB;rcases (hm.place A hA k hk).1 with⟨C,hC,hkC⟩ | h1
  ·exact hap.2.2 C hC B hB k hkC hkB
  ·have:=(h.fresh B (mem_append_right _ hB) k hkB).2;omega
def Qqq {E:List Atom} (hM:∀k,M0 k->k<w.heap.size) (hE:QgB M0 E w) (hap:QdI E) (ha:a.tmps.size=n) (hd:a.defers=[]) (hΓ:∀p∈Γ,p.2.ok (free M0 w) w (get a p.1)):
  ∃M,QbZ M0 E M/\St M w n Γ E a w:=by
 have hpl:QbZ M0 E ⟨λk=>M0 k/\¬Qaz E k,Qaz E,[]⟩:=by
  refine⟨rfl,λk=>⟨λhk=>?_,?_⟩,λk hk=>hk.2,rfl⟩
  ·by_cases he:Qaz E k
   ·exact .inr he
   ·exact .inl ⟨hk,he⟩
  ·rintro (hk | hk)
   ·exact hk.1
   ·exact Qc6 hE k hk
 have hF:∀k,free M0 w k->free (hold (λk=>M0 k/\¬Qaz E k) E) w k:=by
  rintro k ⟨h1,h2⟩;refine⟨h1,?_⟩;rintro (hm | hm)
  ·exact h2 hm.1
  ·exact h2 (Qc6 hE k hm)
 exact⟨_,hpl,⟨ha,hd,Step.refl _ _,λk hk=>⟨hM k hk.1,hk.2⟩,λA hA=>A.keep hF (λ_ _=>rfl) (λ_ _=>rfl) (hE A hA).1,λA hA k hk=>⟨.inl ⟨A,hA,hk⟩,hM k ((hE A hA).2 k hk)⟩,hap,λp hp=>p.2.keep hF (λ_ _=>rfl) (hΓ p hp)⟩⟩
def QoF {E N:List Atom} (is:List Nat) (hpl:QbZ M0 E M) (hst:St M w0 n Γ As a w) (hd:QbQ is=true) (hN:is.filterMap (λi=>As[i]?)=N):Step (Qaz E) w0 w/\Made M0 E N w0 w:=by
 have hmem:∀A,A∈N->A∈As:=by intro A hA;rw[<-hN] at hA;obtain⟨i,_,hi⟩:=Ym.1 hA;exact Zm hi
 have hnext:∀k,free (hold M.m As) w k->free (next M0 E N) w k:=by
  rintro k ⟨h1,h2⟩;refine⟨h1,?_⟩;rintro (⟨hm,hne⟩ | ⟨A,hA,hk⟩)
  ·rcases (hpl.m k).1 hm with hm | hm
   ·exact h2 (.inl hm)
   ·exact hne hm
  ·exact h2 (.inr ⟨A,hmem A hA,hk⟩)
 refine⟨by rw[<-hpl.b];exact hst.grow,⟨?_,λA hA k hk=>?_,λA hA=>Atom.keep _ hnext (λ_ _=>rfl) (λ_ _=>rfl) (hst.own _ (hmem A hA))⟩⟩
 ·rw[<-hN];exact Qpd hst.apart hd
 ·have:=hst.fresh A (hmem A hA) k hk;rw[hpl.b] at this;exact this
def Qro {l:Nat} {r:Loop} {Γl:List (Nat×Ty)} {body:Code} {F:Fence} {m:Nat} {Q:Exit->Act->World->Prop} (hst:St M w0 n Γ (QdM l r Γl::As) a w) (hr:r.state=.ready)
  (h:∀w₂,St M w0 n Γ (QdM l { r with state:=.busy } Γl::As) a w₂->body.wpIn F m P Q a w₂):∃w₂,(Instr.beginRound l).run P w=.ok () w₂/\body.wpIn F m P Q a w₂:=
 ⟨_,run_beginRound (hst.own _ (Zp ..)).1 hr,h _ (hst.putL _ rfl)⟩
structure Qk7 (M0:Blk) (E:List Atom) (D:Nat) (M:Fr):Prop where
 b:M.b=Qaz E
 m:∀k,M0 k↔M.m k\/Qaz E k
 d:∀k,M.m k->¬Qaz E k
 e:M.d=[mark D]
def RetM (P:Program) (fn:Func) (M:Blk) (E:List Atom) (w0:World) (N:Value->List Atom) (T:Value->Ty):Exit->Act->World->Prop:=bodyPostM Fence.wide 0 P fn (λe w'=>∃x v,e=.returned v/\Step (Qaz E) w0 w'/\Made M E (N x) w0 w'/\(T x).ok (free (next M E (N x)) w') w' v)
def FnOk.enterM {f:FuncId} {fn:Func} {c:Code} {Ts:List Ty} {E:List Atom} {N:Value->List Atom} {T:Value->Ty} (hf:P.funcs[f]?=some fn) (hb:fn.body=some c) (hn:fn.ntmps=n) (hl:Ts.length<=n)
  (h:∀M0 M w a,QbZ M0 E M->St M w n (ents Ts) E a w->c.wp P (RetM P fn M0 E w N T) a w):FnOk P f Ts E N T:=by
 intro M0 w vs hM hE hap hc;have hvl:=hc.1;obtain⟨M,hpl,hst⟩:=Qqq (Γ:=ents Ts) (n:=n) (a:={ tmps:=vs.toArray++Array.replicate (fn.ntmps - vs.toArray.size) undef,defers:=[] }) hM hE hap (by simp[hn];omega) rfl (by
  intro p hp;obtain⟨⟨T',i⟩,hmem,rfl⟩:=ZJ.1 hp;obtain⟨j,hj⟩:=ZR.1 hmem;rw[getElem?_zipIdx] at hj
  cases hT:Ts[j]? with
  | none=>simp[hT] at hj
  | some T''=>
   simp only[hT,ZT,ZC,Ys] at hj;obtain⟨rfl,rfl⟩:=hj;have hlt:j<vs.length:=by rw[hvl];exact (Zf.1 hT).1
   have hget:get { tmps:=vs.toArray++Array.replicate (fn.ntmps - vs.toArray.size) undef,defers:=[] } (0+j)=vs[j]:=by unfold get;simp[Array.getElem?_append,hlt]
   show T''.ok _ _ (get _ (0+j));rw[hget];exact hc.2 j T'' vs[j] hT (Ze hlt))
 exact callsIn_wide.1 (callsIn_of_wp_marks (n:=0) hf hb trivial ((wpIn_wide (n:=0)).2 (h M0 M w _ hpl hst)) rfl)
def Qnu {fn:Func} {E:List Atom} {N:Value->List Atom} {T:Value->Ty} (h:Ret P fn M0 E w0 N T .ret a w):RetM P fn M0 E w0 N T .ret a w:=by obtain⟨hd,v,hv,hR⟩:=h;show LeavesInM _ _ _ _ _ _ a.defers _ _;rw[hd];exact⟨v,hv,hR⟩
def QtT {fn:Func} {rs:List ResultVar} {Ts:List Ty} {E:List Atom} {N:Value->List Atom} {T:Value->Ty} {D:Nat} (x:Value) (is:List Nat) (hpl:Qk7 M0 E D M) (hst:St M w0 n Γ (objA D defO::As) a w) (hrs:fn.results=rs.toArray)
  (h:Qd0 P Γ (objA D (.deferred none)::As) rs Ts) (hd:QbQ is=true) (hN:is.filterMap (λi=>(objA D (.deferred none)::As)[i]?)=N x) (hT:T x=Qi1 Ts):RetM P fn M0 E w0 N T .normal a w:=by
 have h1:=hst.putO (.deferred none);have hd0:=h1.defers;have h2:St ⟨M.m,M.b,[]⟩ w0 n Γ (objA D (.deferred none)::As) { a with defers:=[] } (w.putObj D (.deferred none)):=⟨h1.size,rfl,h1.grow,h1.m0,h1.own,h1.fresh,h1.apart,h1.Xq⟩;obtain⟨_,v,hv,hR⟩:=Qfr (P:=P) x is (⟨hpl.b,hpl.m,hpl.d,rfl⟩:QbZ M0 E ⟨M.m,M.b,[]⟩) h2 hrs h hd hN hT;show LeavesInM _ _ _ _ _ _ a.defers _ _;rw[hd0,hpl.e];exact⟨by simp,.inl ⟨D,_,rfl,run_takeDeferred (hst.own _ (Zp ..)),v,hv,hR⟩⟩
def QrV (ops:List Oper):Bool:=ops.all λo=>match o.op with | .defer _=>false | _=>true
def wp_rgR {ops:List Oper} {l:Nat} {id:Nat} {draw:Bool} {Q:Exit->Act->World->Prop} {is:List Info} (hm:P.follows .mixedOrders=true) (hd:QrV ops=true) (Ns:List Ver)
  (hst:St M w0 n Γ As a w) (hrun:∀new,Run P ops (verA As Ns) new 0 Γ ops is) (hchk:chk ops is ((verA As Ns).map (·.ds)) (Γ.map (·.1)) As.length (verA As Ns).length n=true)
  (hQ:∀new a' w',St M w0 n (outG ops is Γ new) (Qe0 (verA As Ns) is new) a' w'->Q .normal a' w'):(Code.region id ops.toArray draw).wpIn (Fence.wide.inRound l) 0 P Q a w:=
 QxR hm (λo ho c e=>by have:=Zw.1 hd o ho;rw[e] at this;cases this) Ns hst hrun hchk hQ
section
variable {d:Option Tmp} {ty:TypeId} {pos:String} {af:Array Edge} {g:Option (Nat×Bool)} {x:Operand} {t:TypeId} {bytes:Nat} {z:Value}
end
end
section
variable {s:Nat} {w b:Bool} {Γ:List (Nat×Ty)} {e0 e1 e2 e3 e4 e5 e6 e7 e8 e9 e10 e11:Nat×Ty}
def bq0:Grd ((s,tv (.bool b))::Γ) s w (b==w):=.b 0 rfl
def bq1:Grd (e0::(s,tv (.bool b))::Γ) s w (b==w):=.b 1 rfl
def bq2:Grd (e0::e1::(s,tv (.bool b))::Γ) s w (b==w):=.b 2 rfl
def bq3:Grd (e0::e1::e2::(s,tv (.bool b))::Γ) s w (b==w):=.b 3 rfl
def bq4:Grd (e0::e1::e2::e3::(s,tv (.bool b))::Γ) s w (b==w):=.b 4 rfl
def bq5:Grd (e0::e1::e2::e3::e4::(s,tv (.bool b))::Γ) s w (b==w):=.b 5 rfl
def bq6:Grd (e0::e1::e2::e3::e4::e5::(s,tv (.bool b))::Γ) s w (b==w):=.b 6 rfl
def bq7:Grd (e0::e1::e2::e3::e4::e5::e6::(s,tv (.bool b))::Γ) s w (b==w):=.b 7 rfl
end
def bs2 {α β γ:Type} {x:Option α} {f:α->Option β} {g:α->β->Option γ} {r:γ} (h:(x.bind λa=>(f a).bind (g a))=some r):∃a,x=some a/\∃b,f a=some b/\g a b=some r:=by obtain⟨a,h1,h2⟩:=bind_some h;obtain⟨b,h3,h4⟩:=bind_some h2;exact⟨a,h1,b,h3,h4⟩
def bs3 {α β γ δ:Type} {x:Option α} {f:α->Option β} {g:α->β->Option γ} {k:α->β->γ->Option δ} {r:δ} (h:(x.bind λa=>(f a).bind λb=>(g a b).bind (k a b))=some r):∃a,x=some a/\∃b,f a=some b/\∃c,g a b=some c/\k a b c=some r:=by obtain⟨a,h1,h2⟩:=bind_some h;obtain⟨b,h3,h4⟩:=bind_some h2;obtain⟨c,h5,h6⟩:=bind_some h4;exact⟨a,h1,b,h3,c,h5,h6⟩
def bs4 {α β γ δ ε:Type} {x:Option α} {f:α->Option β} {g:α->β->Option γ} {k:α->β->γ->Option δ} {l:α->β->γ->δ->Option ε} {r:ε} (h:(x.bind λa=>(f a).bind λb=>(g a b).bind λc=>(k a b c).bind (l a b c))=some r):∃a,x=some a/\∃b,f a=some b/\∃c,g a b=some c/\∃d,k a b c=some d/\l a b c d=some r:=by obtain⟨a,h1,h2⟩:=bind_some h;obtain⟨b,h3,c,h5,d,h7,h8⟩:=bs3 h2;exact⟨a,h1,b,h3,c,h5,d,h7,h8⟩
def bs {α β:Type} {x:Option α} {f:α->Option β} {r:β} (h:x.bind f=some r):∃a,x=some a/\f a=some r:=bind_some h
section
variable {P:Program} {M:Fr} {M0:Blk} {w0 w:World} {n:Nat} {Γ:List (Nat×Ty)} {As:List Atom} {a:Act}
def wi {s:Nat} {b:Bool} {α:Type} {x y:Option α} {r:α} {c1 c2:Code} {Q:Exit->Act->World->Prop} (hst:St M w0 n ((s,tv (.bool b))::Γ) As a w) (h:(if b=true then x else y)=some r) (ht:b=true->x=some r->c1.wp P Q a w) (hf:b=false->y=some r->c2.wp P Q a w):(Code.cond (.tmp s) c1 c2).wp P Q a w:=wt hst (λhb=>ht hb (QdJ hb h)) (λhb=>hf hb (QdK hb h))
def fe {f:FuncId} {fn:Func} {c:Code} {Ts:List Ty} {E:List Atom} {N:Value->List Atom} {T:Value->Ty} (hf:P.funcs[f]?=some fn) (hn:fn.ntmps=n) (h:∀M0 M w a,QbZ M0 E M->St M w n (ents Ts) E a w->c.wp P (Ret P fn M0 E w N T) a w) (hb:fn.body=some c:=by rfl) (hl:Ts.length<=n:=by exact Nat.le_of_ble_eq_true rfl):FnOk P f Ts E N T:=FnOk.enter hf hb hn hl h
def rt {fn:Func} {rs:List ResultVar} {Ts:List Ty} {E:List Atom} {N:Value->List Atom} {T:Value->Ty} (x:Value) (is:List Nat) (hpl:QbZ M0 E M) (hst:St M w0 n Γ As a w) (h:Qd0 P Γ As rs Ts) (hrs:fn.results=rs.toArray:=by rfl) (hd:QbQ is=true:=by rfl)
  (hN:is.filterMap (λi=>As[i]?)=N x:=by rfl) (hT:T x=Qi1 Ts:=by rfl):Ret P fn M0 E w0 N T .ret a w:=Qfr x is hpl hst hrs h hd hN hT
def r0 {α:Type} {e r:α} {P:Program} {Q:Exit->Act->World->Prop} {a:Act} {w:World} (h:some e=some r) (k:e=r->Q .ret a w):Code.ret.wp P Q a w:=wp_ret (k (Zq h))
def r1 {fn:Func} {rs:List ResultVar} {Ts:List Ty} {E:List Atom} {N:Value->List Atom} {T:Value->Ty} (hpl:QbZ M0 E M) (hst:St M w0 n Γ As a w) (h:Qd0 P Γ As rs Ts) (hrs:fn.results=rs.toArray:=by rfl)
  (hN:([]:List Atom)=N undef:=by rfl) (hT:T undef=Qi1 Ts:=by rfl):Ret P fn M0 E w0 N T .ret a w:=Qfr undef [] hpl hst hrs h rfl hN hT
end
section
open Go.MapKept
section
variable {α:Type}
abbrev Mp (α:Type):=Option (List (Int×α))
end
section
variable {Γ:List (Nat×Ty)} {P:Program} {d:Option Tmp} {ty:TypeId} {pos:String} {af:Array Edge} {g:Option (Nat×Bool)} {x y q:Operand} {t kt et:TypeId} {α:Type} {R:Rep α} {bytes:Nat} {z:Value} {m:Mp α} {v:Value} {i:Int} {u:α}
def Qv2 {w:World} (hz:TOk P et R bytes z):(zeroValue et).run P w=.ok z w:=by obtain⟨ti,hti,hzz,_⟩:=hz.info;simp[zeroValue,typeInfo,hti,hzz]
end
section
variable {M:Fr} {w0 w:World} {n:Nat} {Γ:List (Nat×Ty)} {As:List Atom} {a:Act} {α:Type} {R:Rep α} {m:Mp α} {v:Value}
end
end
section
open Go.MapKept
section
variable {α:Type}
def Qfm:List (Str×α)->Str->Option α
 | [],_=>none
 | p::l,i=>if i=p.1 then some p.2 else Qfm l i
def QhK:List (Str×α)->Str->α->List (Str×α)
 | [],i,y=>[(i,y)]
 | p::l,i,y=>if i=p.1 then (i,y)::l else p::QhK l i y
def Qe3:∀(l:List (Str×α)) (i:Str) (y:α) (j:Str),Qfm (QhK l i y) j=if j=i then some y else Qfm l j
 | [],i,y,j=>by simp[QhK,Qfm]
 | p::l,i,y,j=>by
  unfold QhK;by_cases h:i=p.1
  ·rw[Zb h];unfold Qfm;by_cases hj:j=i
   ·rw[Zb hj,Zb hj]
   ·rw[Zc hj,Zc hj,Zc (by rw[<-h];exact hj)]
  ·rw[Zc h];unfold Qfm;by_cases hp:j=p.1
   ·rw[Zb hp,Zb hp,Zc (by rw[hp];exact λe=>h e.symm)]
   ·rw[Zc hp,Zc hp];exact Qe3 l i y j
abbrev MpS (α:Type):=Option (List (Str×α))
def Qjk (m:MpS α) (i:Str):Option α:=m.bind λl=>Qfm l i
def mputS (m:MpS α) (i:Str) (y:α):Option (MpS α):=m.map λl=>some (QhK l i y)
structure Qie (R:Rep α) (F:Blk) (w:World) (es:Array MapEntry) (l:List (Str×α)):Prop where
 all:∀e∈es.toList,∃i x,e.key=.string (sB i)/\Qfm l i=some x/\(R.ty x).ok F w e.val
 has:∀i x,Qfm l i=some x->∃e∈es.toList,e.key=.string (sB i)
 one:∀(n n':Nat) (e e':MapEntry),es.toList[n]?=some e->es.toList[n']?=some e'->e.key=e'.key->n=n'
def Qie.keep {R:Rep α} {F F':Blk} {w w':World} {es:Array MapEntry} {l:List (Str×α)} (hF:∀k,F k->F' k) (hh:∀k,F k->w'.heap[k]?=w.heap[k]?) (h:Qie R F w es l):Qie R F' w' es l:=⟨λe he=>let⟨i,x,h1,h2,h3⟩:=h.all e he;⟨i,x,h1,h2,(R.ty x).keep hF hh h3⟩,h.has,h.one⟩
def Qqr (R:Rep α) (F:Blk) (w:World) (m:MpS α) (v:Value):Prop:=match m with | none=>v=.map none | some l=>∃b es c,v=.map (some b)/\w.heap[b]?=some (.map es c)/\Qie R F w es l
def QeU (R:Rep α) (m:MpS α) (v:Value):Atom:=
 ⟨λk=>v=.map (some k),λF w=>Qqr R F w m v,
  by
   intro F F' w w' hF hh hf h
   cases m with
   | none=>exact h
   | some l=>obtain⟨b,es,c,h1,h2,h3⟩:=h;exact⟨b,es,c,h1,by rw[hf b h1];exact h2,h3.keep hF hh⟩⟩
def Qco (R:Rep α) (m:MpS α):Ty:=
 ⟨λF w v=>match m with | none=>v=.map none | some l=>∃b es c,v=.map (some b)/\F b/\w.heap[b]?=some (.map es c)/\Qie R F w es l,
  by
   intro F F' w w' v hF hh h
   cases m with
   | none=>exact h
   | some l=>obtain⟨b,es,c,h1,h2,h3,h4⟩:=h;exact⟨b,es,c,h1,hF b h2,by rw[hh b h2];exact h3,h4.keep hF hh⟩⟩
def QtV {R:Rep α} {m:MpS α}:One (Qco R m):=λF w v h=>by
 cases m with
 | none=>have:v=.map none:=h;rw[this];rfl
 | some l=>obtain⟨b,es,c,h1,_⟩:=h;rw[h1];rfl
@[reducible] def rMpS (R : Rep α) : Rep (MpS α) := ⟨λm => [Qco R m],1,false,λ_ => rfl,λm T hT F w v hv => by simp at hT; subst hT; exact QtV F w v hv,λ_ => rfl⟩
end
section
variable {Γ:List (Nat×Ty)} {P:Program} {d:Option Tmp} {ty:TypeId} {pos:String} {af:Array Edge} {g:Option (Nat×Bool)} {x y q:Operand} {t kt et:TypeId} {α:Type} {R:Rep α} {bytes:Nat} {z:Value} {m:MpS α} {v:Value} {i:Str} {u:α}
def QhY (i:Str):IsKey .string (.string (sB i)):=by simp[IsKey]
def Qie.keys {F:Blk} {w:World} {es:Array MapEntry} {l:List (Str×α)} (h:Qie R F w es l):∀e∈es.toList,IsKey .string e.key:=λe he=>by obtain⟨i,x,h1,_⟩:=h.all e he;rw[h1];exact QhY i
def QtW {F:Blk} {w:World} (ht:P.underlying t=some (.map kt et)) (hk:P.underlying kt=some .string) (hz:(zeroValue et).run P w=.ok z w) {x0:α} (hz0:(R.ty x0).ok F w z)
  (h:Qqr R F w m v) (ok:Bool):
  ∃r,(Instr.lookup t v (.string (sB i)) ok).run P w=.ok (if ok=true then .tuple #[r,.bool (Qjk m i).isSome] else r) w/\(R.ty ((Qjk m i).getD x0)).ok F w r:=by
 cases m with
 | none=>have hv:v=.map none:=h;subst hv;refine⟨z,?_,hz0⟩;have hck:(Instr.checkKey true 10000 kt (.string (sB i))).run P w=.ok () w:=Go.MapKept.run_checkKey hk (QhY i) true 9999;have hf:(Instr.findKey kt (.string (sB i)) ([]:List MapEntry)).run P w=.ok none w:=Go.MapKept.run_findKey hk rfl;cases ok<;>simp[Instr.lookup,run_underlying ht,hck,hf,hz,Qjk,Result.andThen]
 | some l=>
  obtain⟨b,es,c,hv,hb,hm⟩:=h;subst hv;have hck:∀e,(Instr.checkKey e 10000 kt (.string (sB i))).run P w=.ok () w:=λe=>Go.MapKept.run_checkKey hk (QhY i) e 9999;rcases findNow_spec (QhY i) es.toList 0 hm.keys with⟨h1,h2⟩ | ⟨j,e,h1,h2,h3⟩
  ·have hn:Qfm l i=none:=by
    cases hg:Qfm l i with
    | none=>rfl
    | some u=>obtain⟨e,he,hk⟩:=hm.has i u hg;exact absurd hk (h2 e he)
   refine⟨z,?_,by show (R.ty ((Qfm l i).getD x0)).ok F w z;rw[hn];exact hz0⟩;have e0:Qjk (some l) i=none:=hn;cases ok<;>simp[Instr.lookup,run_underlying ht,Go.MapKept.run_getObj_map hb,hck,Go.MapKept.run_findKey hk h1,hz,e0,Result.andThen]
  ·obtain⟨i',u,h4,h5,h6⟩:=hm.all e (Zm h2);rw[h3] at h4;simp only[Value.string.injEq,QtP] at h4;subst h4;refine⟨e.val,?_,by show (R.ty ((Qfm l i).getD x0)).ok F w e.val;rw[h5];exact h6⟩;have e0:Qjk (some l) i=some u:=h5;cases ok<;>simp[Instr.lookup,run_underlying ht,Go.MapKept.run_getObj_map hb,hck,Go.MapKept.run_findKey hk h1,e0,Result.andThen]
def QtX {F:Blk} {w:World} (h:(Qco R m).ok F w v):Qqr R F w m v:=by
 cases m with
 | none=>exact h
 | some l=>obtain⟨b,es,c,h1,_,h2,h3⟩:=h;exact⟨b,es,c,h1,h2,h3⟩
def Qmt {x0:α} (ht:P.underlying t=some (.map kt et)) (hk:P.underlying kt=some .string) (hz:TOk P et R bytes z) (hz0:∀F w,(R.ty x0).ok F w z) (hx:Fct Γ x (Qco R m)) (hi:Fct Γ y (tv (.string (sB i)))):
  OpJ P ⟨d,.lookup t x y false,ty,pos,af,g⟩ Γ [] [] (λ_=>[]) (λ_=>R.ty ((Qjk m i).getD x0)):=
 Qaw λF w a he=>by have h1:=hx.use (by simp[Op.operands]) he;have h2:=hi.val (by simp[Op.operands]) he;obtain⟨r,hr,ho⟩:=QtW (i:=i) ht hk (Qv2 hz) (hz0 F w) (QtX h1) false;exact⟨r,by simp only[execOp,h2,Sem.run_bind,hr,Zj,Sem.run_pure];rfl,ho⟩
def Qrp (R:Rep α):OpJ P ⟨d,.makeMap t none,ty,pos,af,g⟩ Γ [] [] (λv=>[QeU R (some []) v]) (λv=>tv v):=by
 intro M w A hM _ _ _ _ _;have hexec:(execOp A.eval (⟨d,.makeMap t none,ty,pos,af,g⟩:Oper)).run P w=.ok (.value (.map (some w.heap.size))) (w.alloc (.map #[] 0)):=rfl;simp only[Does,hexec];have hb:=(heap_alloc w (.map #[] 0)).1;refine⟨.map (some w.heap.size),(Step.alloc w _).mono (λ_ h=>h.elim),Qbx (λk hk=>?_) ?_,rfl⟩
 ·have hk':Value.map (some w.heap.size)=.map (some k):=hk;simp only[Value.map.injEq,ZC] at hk';subst hk';exact⟨.inr (Zs _),by simp⟩
 ·exact⟨w.heap.size,#[],0,rfl,hb,⟨λe he=>(by simp at he),λi u h=>(by cases h),λn n' e e' h=>(by simp at h)⟩⟩
def QsC {m':MpS α} (ht:P.underlying t=some (.map kt et)) (hk:P.underlying kt=some .string) (hx:Fct Γ x (tv v)) (hi:Fct Γ y (tv (.string (sB i)))) (hq:Fct Γ q (R.ty u)) (h:mputS m i u=some m'):
  OpJ P ⟨d,.mapUpdate t x y q,ty,pos,af,g⟩ Γ [] [QeU R m v] (λ_=>[QeU R m' v]) (λ_=>tany):=by
 intro M w A hM _ hE _ _ he;obtain⟨ho,hfp⟩:=hE _ (Zg.2 rfl);have hgiv:=Qc6 hE;have h1:=hx.val (by simp[Op.operands]) he;have h2:=hi.val (by simp[Op.operands]) he;have h3:=hq.use (by simp[Op.operands]) he
 cases m with
 | none=>cases h
 | some l=>
  obtain rfl:some (QhK l i u)=m':=by simpa[mputS] using h
  obtain⟨b,es,c,hv,hb,hm⟩:=ho;have hlt:b<w.heap.size:=(Array.getElem?_eq_some_iff.1 hb).1;have key:∃es' c',(Instr.mapUpdate t v (.string (sB i)) (A.eval q)).run P w=.ok () { w with heap:=w.heap.setIfInBounds b (.map es' c') }/\Qie R (free M w) w es' (QhK l i u):=by
   subst hv;rcases findNow_spec (QhY i) es.toList 0 hm.keys with⟨f1,f2⟩ | ⟨j,e,f1,f2,f3⟩
   ·refine⟨es.push ⟨.string (sB i),A.eval q,c⟩,c+1,by simp[Instr.mapUpdate,run_underlying ht,Go.MapKept.run_getObj_map hb,Go.MapKept.run_checkKey hk (QhY i),Go.MapKept.run_findKey hk f1,Go.MapKept.run_setObj_map _ hb,Result.andThen],⟨λe he=>?_,λj y hj=>?_,λn n' e e' hn hn' hke=>?_⟩⟩
    ·simp only[Array.toList_push,ZF,Zg] at he;rcases he with he | rfl
     ·obtain⟨k,y,g1,g2,g3⟩:=hm.all e he;refine⟨k,y,g1,?_,g3⟩;rw[Qe3,Zc (λe2=>f2 e he (by rw[g1,e2]))];exact g2
     ·exact⟨i,u,rfl,by rw[Qe3,Zb rfl],h3⟩
    ·rw[Qe3] at hj;by_cases e:j=i
     ·subst e;exact⟨_,by rw[Array.toList_push];exact mem_append_right _ (mem_singleton_self _),rfl⟩
     ·rw[Zc e] at hj;obtain⟨e',he',hk'⟩:=hm.has j y hj;exact⟨e',by rw[Array.toList_push];exact mem_append_left _ he',hk'⟩
    ·rw[Array.toList_push] at hn hn';have cases':∀(n:Nat) (e:MapEntry),(es.toList++[⟨.string (sB i),A.eval q,c⟩])[n]?=some e->es.toList[n]?=some e\/(n=es.toList.length/\e.key=.string (sB i)):=λn e h=>by
      rw[getElem?_append] at h;split at h
      ·exact .inl h
      ·rename_i hge;rw[getElem?_singleton] at h;split at h
       ·exact .inr ⟨by omega,by cases h;rfl⟩
       ·cases h
     rcases cases' n e hn with a | ⟨a1,a2⟩<;>rcases cases' n' e' hn' with b | ⟨b1,b2⟩
     ·exact hm.one n n' e e' a b hke
     ·exact absurd (hke.trans b2) (f2 e (Zm a))
     ·exact absurd (hke.symm.trans a2) (f2 e' (Zm b))
     ·omega
   ·have hj:es[j]?=some e:=by simpa using f2
    have hmod:∀n:Nat,(es.modify j λe=>{ e with key:=.string (sB i),val:=A.eval q }).toList[n]?=if n=j then some { e with key:=.string (sB i),val:=A.eval q } else es.toList[n]?:=λn=>by
     rw[Array.getElem?_toList,Array.getElem?_modify];by_cases hn:n=j
     ·subst hn;rw[Zb rfl,Zb rfl,hj];rfl
     ·rw[Zc (λh=>hn h.symm),Zc hn,Array.getElem?_toList]
    have kk:∀(n:Nat) (e':MapEntry),(es.modify j λe=>{ e with key:=.string (sB i),val:=A.eval q }).toList[n]?=some e'->∃e0,es.toList[n]?=some e0/\e0.key=e'.key/\(n=j->e'.val=A.eval q)/\(n≠j->e'=e0):=λn e' h=>by
     rw[hmod] at h;by_cases hn:n=j
     ·rw[Zb hn] at h;cases h;exact⟨e,by rw[hn];exact f2,f3,λ_=>rfl,λh=>(h hn).elim⟩
     ·rw[Zc hn] at h;exact⟨e',h,rfl,λh=>(hn h).elim,λ_=>rfl⟩
    refine⟨es.modify j λe=>{ e with key:=.string (sB i),val:=A.eval q },c,by simp[Instr.mapUpdate,run_underlying ht,Go.MapKept.run_getObj_map hb,Go.MapKept.run_checkKey hk (QhY i),Go.MapKept.run_findKey hk f1,hj,f3,run_keyThatStays (QhY i),Go.MapKept.run_setObj_map _ hb,Result.andThen],⟨λe' he'=>?_,λk y hk2=>?_,λn n' e1 e2 h1 h2 hke=>?_⟩⟩
    ·obtain⟨n,hn⟩:=ZR.1 he';obtain⟨e0,g1,g2,g3,g4⟩:=kk n e' hn;obtain⟨k,y,q1,q2,q3⟩:=hm.all e0 (Zm g1);by_cases hnj:n=j
     ·have:e0=e:=by rw[hnj,f2] at g1;exact (Zq g1).symm
      subst this;have hki:k=i:=by rw[f3] at q1;simpa[QtP] using q1.symm
      exact⟨i,u,by rw[<-g2,f3],by rw[Qe3,Zb rfl],by rw[g3 hnj];exact h3⟩
     ·have hne:k≠i:=λe2=>hnj (hm.one n j e0 e g1 f2 (by rw[q1,f3,e2]));exact⟨k,y,by rw[<-g2];exact q1,by rw[Qe3,Zc hne];exact q2,by rw[g4 hnj];exact q3⟩
    ·have old:∀e0∈es.toList,∃e'∈(es.modify j λe=>{ e with key:=.string (sB i),val:=A.eval q }).toList,e'.key=e0.key:=λe0 he0=>by
      obtain⟨n,hn⟩:=ZR.1 he0;by_cases hnj:n=j
      ·have:e0=e:=by rw[hnj,f2] at hn;exact (Zq hn).symm
       subst this;exact⟨_,Zm (by rw[hmod,Zb hnj]),f3.symm⟩
      ·exact⟨e0,Zm (i:=n) (by rw[hmod,Zc hnj];exact hn),rfl⟩
     rw[Qe3] at hk2;by_cases e2:k=i
     ·subst e2;obtain⟨e',g1,g2⟩:=old e (Zm f2);exact⟨e',g1,by rw[g2];exact f3⟩
     ·rw[Zc e2] at hk2;obtain⟨e0,he0,hk0⟩:=hm.has k y hk2;obtain⟨e',g1,g2⟩:=old e0 he0;exact⟨e',g1,by rw[g2];exact hk0⟩
    ·obtain⟨a1,b1,c1,_⟩:=kk n e1 h1;obtain⟨a2,b2,c2,_⟩:=kk n' e2 h2;exact hm.one n n' a1 a2 b1 b2 (by rw[c1,c2];exact hke)
  obtain⟨es',c',hrun,hmi⟩:=key;have hexec:(execOp A.eval (⟨d,.mapUpdate t x y q,ty,pos,af,g⟩:Oper)).run P w=.ok .skip { w with heap:=w.heap.setIfInBounds b (.map es' c') }:=by simp only[execOp,h1,h2,Sem.run_bind,hrun,Zj,Sem.run_pure]
  simp only[Does,hexec];have hset:=heap_set (o':=.map es' c') hb;have hstep:Step (Qaz [QeU R (some l) v]) w { w with heap:=w.heap.setIfInBounds b (.map es' c') }:=⟨rfl,rfl,rfl,by simp,λk _ hnk=>hset.2 k (λe=>hnk (Qad.2 (by rw[e];exact hv)))⟩;refine⟨undef,hstep,Qbx (λk hk=>?_) ?_,trivial⟩
  ·have hkb:v=.map (some k):=hk;refine⟨.inl (Qad.2 hkb),?_⟩;rw[hv] at hkb;simp only[Value.map.injEq,ZC] at hkb;subst hkb;simpa using hlt
  ·refine⟨b,es',c',hv,hset.1,?_⟩;refine Qie.keep (λk hk=>?_) (λk hk=>hset.2 k (λe=>?_)) hmi
   ·refine Qb5 hstep.size hgiv (λB hB j hj=>?_) hk;obtain rfl:=Zg.1 hB;exact .inl (Qad.2 hj)
   ·exact hk.2 (hfp b hv |> λh=>by rw[e];exact h)
def QsD {F F':Blk} {w:World} (h:(QeU R m v).ok F w) (hF:∀k,F k->F' k) (hfp:∀k,(QeU R m v).fp k->F' k):(Qco R m).ok F' w v:=by
 cases m with
 | none=>exact h
 | some l=>obtain⟨b,es,c,h1,h2,h3⟩:=h;exact⟨b,es,c,h1,hfp b h1,h2,h3.keep hF (λ_ _=>rfl)⟩
end
section
variable {M:Fr} {w0 w:World} {n:Nat} {Γ:List (Nat×Ty)} {As:List Atom} {a:Act} {α:Type} {R:Rep α} {m:MpS α} {v:Value}
end
end
section
variable {α:Type} {R:Rep α} {e:TypeId}
end
section
variable {Γ:List (Nat×Ty)} {P:Program} {d:Option Tmp} {ty:TypeId} {pos:String} {af:Array Edge} {g:Option (Nat×Bool)} {x y:Operand} {t e e':TypeId} {α:Type} {R:Rep α} {bytes:Nat} {z:Value} {xs ys:List α} {v:Value} {k:IntKind} {i:Int} {u:α}
end
section
variable {Γ:List (Nat×Ty)} {x:Operand} {e:TypeId} {α:Type} {R:Rep α} {xs:List α} {v q:Value} {Ts:List Ty}
end
section
variable {M:Fr} {w0 w:World} {n:Nat} {Γ:List (Nat×Ty)} {As:List Atom} {a:Act} {α:Type} {R:Rep α} {e:TypeId} {xs:List α} {v:Value}
end
section
variable {Γ:List (Nat×Ty)} {P:Program} {d:Option Tmp} {ty:TypeId} {pos:String} {af:Array Edge} {g:Option (Nat×Bool)} {x y:Operand} {t:TypeId} {bytes:Nat} {z:Value}
def zokPf:∀F w,(rVal.ty .nilFunc).ok F w .nilFunc:=λ_ _=>⟨rfl,rfl⟩
def zokP:∀F w,(rVal.ty (.pointer none)).ok F w (.pointer none):=λ_ _=>⟨rfl,rfl⟩
end
section
variable {Γ:List (Nat×Ty)} {P:Program} {d:Option Tmp} {ty:TypeId} {pos:String} {af:Array Edge} {g:Option (Nat×Bool)} {x:Operand} {t kt et:TypeId} {α:Type} {R:Rep α} {m:Mp α} {v:Value}
end
section
variable {M:Fr} {w0 w:World} {n:Nat} {Γ:List (Nat×Ty)} {As:List Atom} {a:Act}
end
def QgC (As:List Atom):Atom:=⟨fps As,λF w=>(∀A∈As,A.ok F w)/\QdI As,λhF hh hf h=>⟨λA hA=>A.keep hF hh (λk hk=>hf k ⟨A,hA,hk⟩) (h.1 A hA),h.2⟩⟩
def QiG {E:List Atom}:Qaz [QgC E]=Qaz E:=by
 funext k
 exact propext ⟨λ⟨A,hA,hk⟩=>by obtain rfl:=Zg.1 hA;exact hk,λh=>⟨_,Zg.2 rfl,h⟩⟩
def Qmu {M:Blk} {E N:List Atom}:next M [QgC E] [QgC N]=next M E N:=by unfold next;rw[QiG,QiG]
def QsE {M:Blk} {E:List Atom} {w:World} (h:QgB M E w) (hap:QdI E):QgB M [QgC E] w:=λA hA=>by obtain rfl:=Zg.1 hA;exact⟨⟨λB hB=>(h B hB).1,hap⟩,λk ⟨B,hB,hk⟩=>(h B hB).2 k hk⟩
def QpH {M:Blk} {E:List Atom} {w:World} (h:QgB M [QgC E] w):QgB M E w/\QdI E:=
 have:=h _ (Zg.2 rfl)
 ⟨λA hA=>⟨this.1.1 A hA,λk hk=>this.2 k ⟨A,hA,hk⟩⟩,this.1.2⟩
def QtY {M:Blk} {E N:List Atom} {w w':World} (h:Made M E N w w'):Made M [QgC E] [QgC N] w w':=
 ⟨pairwise_singleton _ _,λA hA k hk=>by
  obtain rfl:=Zg.1 hA;obtain⟨B,hB,hk⟩:=hk;rw[QiG];exact h.place B hB k hk,λA hA=>by
  obtain rfl:=Zg.1 hA;rw[Qmu];exact⟨h.ok,h.apart⟩⟩
def Qqs {M:Blk} {E N:List Atom} {w w':World} (h:Made M [QgC E] [QgC N] w w'):Made M E N w w':=by have h1:=h.ok _ (Zg.2 rfl);rw[Qmu] at h1;exact⟨h1.2,λA hA k hk=>by have:=h.place _ (Zg.2 rfl) k ⟨A,hA,hk⟩;rwa [QiG] at this,h1.1⟩
section
variable {P:Program} {M:Fr} {M0:Blk} {w0:World} {n:Nat} {Γ:List (Nat×Ty)} {As:List Atom} {a:Act} {w:World}
def FnOk.unjoin {f:FuncId} {Ts:List Ty} {E:List Atom} {N:Value->List Atom} {T:Value->Ty} (h:FnOk P f Ts [QgC E] (λx=>[QgC (N x)]) T):FnOk P f Ts E N T:=λM w vs hM hE hap hc=>Calls.mono (h M w vs hM (QsE hE hap) (pairwise_singleton _ _) hc) (λe w' ⟨x,v,he,hs,hm,ht⟩=>⟨x,v,he,by rwa [QiG] at hs,Qqs hm,by rwa [Qmu] at ht⟩)
def RB (E:List Atom) (M0:Blk) (b:Bool) (N:Value->List Atom) (w:World):Ending->World->Prop:=λe w'=>∃x,e=.returned (.bool b)/\Step (Qaz E) w w'/\Made M0 E (N x) w w'
def YOk (P:Program) (l:Nat) (E:List Atom) (v:Value) (b:Bool) (N:Value->List Atom):Prop:=∀(M:Blk) (w:World),(∀k,M k->k<w.heap.size)->QgB M E w->QdI E->∃fn tmps assign body,(Instr.yield l #[v]).run P w=.ok (.round l fn tmps assign body) w/\RoundIn Fence.wide 0 P l fn tmps assign body w (RB E M b N w)
def YOk.join {l:Nat} {E:List Atom} {v:Value} {b:Bool} {N:Value->List Atom} (h:YOk P l E v b N):YOk P l [QgC E] v b (λx=>[QgC (N x)]):=λM w hM hE _=>by obtain⟨h1,h2⟩:=QpH hE;obtain⟨fn,tmps,as,body,hr,hR⟩:=h M w hM h1 h2;exact⟨fn,tmps,as,body,hr,RoundIn.mono hR (λe w' ⟨x,he,hs,hm⟩=>⟨x,he,by rw[QiG];exact hs,QtY hm⟩)⟩
def QtZ {d:Option Tmp} {ty:TypeId} {pos:String} {af:Array Edge} {g:Option (Nat×Bool)} {f x:Operand} {v:Value} {b:Bool} {l:Nat} {E:List Atom} {N:Value->List Atom} {ts:Array TypeId}
  (hf:Fct Γ f (tv (.func (.yield l) #[] #[]))) (hx:Fct Γ x (tv v)) (hY:YOk P l E v b N):OpJ P ⟨d,.call { callee:=.value f,args:=#[x],argTypes:=ts },ty,pos,af,g⟩ Γ [] E N (λ_=>tv (.bool b)):=by
 intro M w a hM _ hE hap _ he;have hfv:=hf.val (by simp[Op.operands,Call.operands]) he;have hxv:=hx.val (by simp[Op.operands,Call.operands]) he;obtain⟨fn,tmps,as,body,hrun,hR⟩:=hY M w hM hE hap;have hr:(execOp a.eval (⟨d,.call { callee:=.value f,args:=#[x],argTypes:=ts },ty,pos,af,g⟩:Oper)).run P w=.ok (.round l fn tmps as body) w:=by simp only[execOp,resolve,Deferred.ofValue,hfv,map_toArray,Yd,Yn,hxv,Sem.run_bind,Sem.run_pure,Zj,invoke];simpa using hrun
 simp only[Does,hr];refine RoundIn.mono hR ?_;rintro e w' ⟨x,he,h1,h2⟩;exact⟨_,he,x,h1,h2,rfl⟩
def yieldG {l:Nat} {fn:FuncId} {tmps:Array Value} {p:Tmp} {assign body:Code} {D:Nat} {E:List Atom} {b:Bool} {N:Value->List Atom} {v:Value} {Γ:List (Nat×Ty)} (hn:tmps.size=n) (hp:p<n) (hne:(Γ.all λq=>q.1 !=p)=true)
  (h:∀M0 M w a,QbZ M0 (QdM l (Qbk fn tmps #[p] assign body D) Γ::E) M->St M w n ((p,tv v)::Γ) (QdM l (Qbk fn tmps #[p] assign body D) Γ::E) a w->assign.wpIn (Fence.wide.inRound l) 0 P (Exit.then (λa₁ w₁=>∃w₂,(Instr.beginRound l).run P w₁=.ok () w₂/\body.wpIn (Fence.wide.inRound l) 0 P (roundPost P l (RB (QdM l (Qbk fn tmps #[p] assign body D) Γ::E) M0 b N w)) a₁ w₂) (λ_ _ _=>False)) a w):
  YOk P l (QdM l (Qbk fn tmps #[p] assign body D) Γ::E) v b N:=by
 intro M0 w hM hE hap;have hl:=(hE _ (Zp ..)).1;refine⟨fn,tmps.setIfInBounds p v,assign,body,?_,?_⟩
 ·have:=run_yield (P:=P) (args:=#[v]) hl.1 rfl;simpa[Qbk] using this
 ·obtain⟨M,hpl,hst⟩:=Qqq (a:={ tmps:=tmps.setIfInBounds p v,defers:=[] }) (n:=n) (Γ:=(p,tv v)::Γ) hM hE hap (by simpa using hn) rfl (λq hq=>by
   rcases Zo.1 hq with rfl | hq
   ·show (tmps.setIfInBounds p v).getD p undef=v;simp[hn,hp]
   ·have h1:=hl.2 q hq;have h2:q.1≠p:=by have:=Zw.1 hne q hq;simpa using this
    have e:get { tmps:=tmps.setIfInBounds p v,defers:=[] } q.1=tmps.getD q.1 undef:=by simp[get,Array.getElem?_setIfInBounds_ne (Ne.symm h2)]
    rw[e];exact h1)
  exact roundIn_of_wpIn trivial (h M0 M w _ hpl hst)
inductive Qm2:Code->Exit->Prop where
 | ret:Qm2 .ret .ret
 | exit (id:Nat):Qm2 (.exit id) (.exit id)
def QsF {l:Nat} {fn:FuncId} {tmps:Array Value} {ps:Array Tmp} {assign body:Code} {D:Nat} {Γl:List (Nat×Ty)} {E:List Atom} {N:Value->List Atom} (x:Value) (is:List Nat) (hpl:QbZ M0 E M)
  (hst:St M w0 n Γ (QdM l { Qbk fn tmps ps assign body D with state:=.busy } Γl::As) a w) (hd:QbQ is=true)
  (hN:is.filterMap (λi=>(QdM l (Qbk fn tmps ps assign body D) Γl::As)[i]?)=N x):roundPost P l (RB E M0 true N w0) .normal a w:=
 ⟨_,_,run_endRound none (hst.own _ (Zp ..)).1,x,rfl,QoF is hpl (hst.putL (Qbk fn tmps ps assign body D) rfl) hd hN⟩
def Qrq {l:Nat} {fn:FuncId} {tmps:Array Value} {ps:Array Tmp} {assign body:Code} {D:Nat} {Γl:List (Nat×Ty)} {E:List Atom} {N:Value->List Atom} {jump:Code} {jx:Exit} (hj:Qm2 jump jx) (x:Value) (is:List Nat) (hpl:QbZ M0 E M)
  (hst:St M w0 n Γ (QdM l { Qbk fn tmps ps assign body D with state:=.busy } Γl::As) a w) (hd:QbQ is=true)
  (hN:is.filterMap (λi=>(QdM l { Qbk fn tmps ps assign body D with state:=.done,pending:=some jump } Γl::As)[i]?)=N x):roundPost P l (RB E M0 false N w0) jx a w:=by
 cases hj with
 | ret=>exact⟨_,_,run_endRound (some .ret) (hst.own _ (Zp ..)).1,x,rfl,QoF is hpl (hst.putL { Qbk fn tmps ps assign body D with state:=.done,pending:=some .ret } rfl) hd hN⟩
 | exit id=>exact⟨_,_,run_endRound (some (.exit id)) (hst.own _ (Zp ..)).1,x,rfl,QoF is hpl (hst.putL { Qbk fn tmps ps assign body D with state:=.done,pending:=some (.exit id) } rfl) hd hN⟩
def Qqt (P:Program) (n:Nat) (Γ:List (Nat×Ty)) {S:Type} (A:S->Value->List Atom) (k:IntKind) (p:Tmp) (assign body:Code) (jx:Exit) (Y:S->Int->Option (S⊕S)):Prop:=
 ∀s g i r,Y s i=some r->∀(M0:Blk) (M:Fr) (w0:World) (a:Act) (l:Nat) (LR LB:Atom) (K:Act->World->Prop) (Q:Exit->Act->World->Prop),(∀F w,LB.ok F w->∃r,w.heap[l]?=some (.loop r))->
  QbZ M0 (LR::A s g) M->St M w0 n ((p,tv (.int k i))::Γ) (LR::A s g) a w0->
  (∀Γ' As a w,St M w0 n Γ' (LR::As) a w->(∀w,St M w0 n Γ' (LB::As) a w->body.wpIn (Fence.wide.inRound l) 0 P Q a w)->K a w)->
  (∀s' x Γ' is As a w,r=.inl s'->St M w0 n Γ' (LB::As) a w->QbQ is=true->(∀L,is.filterMap (λi=>(L::As)[i]?)=L::A s' x)->Q .normal a w)->
  (∀s' x Γ' is As a w,r=.inr s'->St M w0 n Γ' (LB::As) a w->QbQ is=true->(∀L,is.filterMap (λi=>(L::As)[i]?)=L::A s' x)->Q jx a w)->
  assign.wpIn (Fence.wide.inRound l) 0 P (Exit.then K (λ_ _ _=>False)) a w0
def QpW (P:Program) (f1:FuncId) (Tc:List Ty) (k:IntKind) {S:Type} (Y:S->Int->Option (S⊕S)) (s0:S) (t:S⊕S):Prop:=∀(l:Nat) (W:S⊕S->Value->Atom) (g0:Value),(∀s g i r,Y s i=some r->YOk P l [W (.inl s) g] (.int k i) r.isLeft (λx=>[W r x]))->∃T,FnOk P f1 (tv (.func (.yield l) #[] #[])::Tc) [W (.inl s0) g0] (λx=>[W t x]) T
section
variable {S:Type} {A:S->Value->List Atom} {k:IntKind} {p:Tmp} {assign body:Code} {jump:Code} {jx:Exit} {Y:S->Int->Option (S⊕S)} {s0:S} {g0:Value} {t:S⊕S} {f1:FuncId} {Tc:List Ty} {g:Operand}
def recW (A:S->Value->List Atom) (l:Nat) (r:Loop) (jump:Code) (Γ:List (Nat×Ty)):S⊕S->Value->List Atom
 | .inl s,x=>QdM l r Γ::A s x
 | .inr s,x=>QdM l { r with state:=.done,pending:=some jump } Γ::A s x
def Qn4 {fn:FuncId} {D l:Nat} {ex:List Atom} {tm:Array Value} (htm:a.tmps=tm) (hj:Qm2 jump jx) (hst:St M w0 n Γ ((QdM l (Qbk fn tm #[p] assign body D) Γ::A s0 g0)++ex) a w)
  (hg:Fct Γ g (QaN f1 Tc)) (hseq:QpW P f1 Tc k Y s0 t) (hp:p<n) (hne:(Γ.all λq=>q.1 !=p)=true) (hbody:Qqt P n Γ A k p assign body jx Y):
  ∃caps:List Value,a.eval g=.func (.func f1) #[] caps.toArray/\CallsIn Fence.wide 0 P f1 (#[.func (.yield l) #[] #[]]++caps.toArray) w (λe w'=>∃v x,e=.returned v/\St M w0 n Γ (recW A l (Qbk fn tm #[p] assign body D) jump Γ t x++ex) a w'):=by
 obtain⟨caps,hgv,hcap⟩:=hg _ _ a (λp hp _=>hst.Xq p hp);refine⟨caps,hgv,callsIn_wide.2 ?_⟩;obtain⟨T,hcall⟩:=hseq l (λr x=>QgC (recW A l (Qbk fn tm #[p] assign body D) jump Γ r x)) g0 (λs g i r hY=>by
  refine (yieldG (Γ:=Γ) (b:=r.isLeft) (N:=λx=>recW A l (Qbk fn tm #[p] assign body D) jump Γ r x) (htm▸hst.size) hp hne (λM0 M w a hpl hst'=>?_)).join;refine hbody s g i r hY M0 M w a l _ (QdM l { Qbk fn tm #[p] assign body D with state:=.busy } Γ) _ _ (λF w h=>⟨_,h.1⟩) hpl hst' (λΓ' As a w1 h1 h2=>Qro h1 rfl h2) ?_ ?_
  ·rintro s' x Γ' is As a w1 rfl h1 hd hN;exact QsF x is hpl h1 hd (hN _)
  ·rintro s' x Γ' is As a w1 rfl h1 hd hN;exact Qrq hj x is hpl h1 hd (hN _))
 have hcall:=(FnOk.unjoin hcall) (hold M.m ((QdM l (Qbk fn tm #[p] assign body D) Γ::A s0 g0)++ex)) w (.func (.yield l) #[] #[]::caps) ?_ ?_ ?_ ?_
 ·refine Calls.mono (by simpa using hcall) ?_;rintro e w' ⟨x,v,rfl,hs,hm,_⟩;exact⟨v,x,rfl,hst.called hs hm⟩
 ·intro k hk;rcases hk with hk | ⟨A,hA,hk⟩
  ·exact ZB (hst.m0 k hk).1 hst.grow.size
  ·exact (hst.fresh A hA k hk).2
 ·intro A hA;exact⟨hst.own A (mem_append_left _ hA),λk hk=>.inr ⟨A,mem_append_left _ hA,hk⟩⟩
 ·exact (pairwise_append.1 hst.apart).1
 ·exact .cons rfl hcap
def Qt0 {Q:Exit->Act->World->Prop} (hj:Qm2 jump jx) (hst:St M w0 n Γ (A s0 g0) a w) (hg:Fct Γ g (QaN f1 Tc)) (hc:Qj P f1) (hseq:QpW P f1 Tc k Y s0 t) (hp:p<n) (hne:(Γ.all λq=>q.1 !=p)=true)
  (hbody:Qqt P n Γ A k p assign body jx Y)
  (hQ:∀s x D a' w' M',t=.inl s->(∀M0 E,QbZ M0 E M->Qk7 M0 E D M')->St M' w0 n Γ (objA D defO::A s x) a' w'->Q .normal a' w')
  (hX:∀s x D a' w' M',t=.inr s->(∀M0 E,QbZ M0 E M->Qk7 M0 E D M')->St M' w0 n Γ (objA D defO::A s x) a' w'->Q jx a' w'):(Code.rangeFunc g #[p] assign body).wp P Q a w:=by
 refine (wpIn_wide (n:=0)).1 (wpIn_rangeFunc λfn _=>?_);have h1:=hst.lay defO;have h2:St M w0 n Γ (QdM (w.alloc defO).heap.size (Qbk fn a.tmps #[p] assign body w.heap.size) Γ::objA w.heap.size defO::A s0 g0) a ((w.alloc defO).alloc (.loop (Qbk fn a.tmps #[p] assign body w.heap.size))):=h1.layA (.loop (Qbk fn a.tmps #[p] assign body w.heap.size)) (λ_=>Iff.rfl) (λF w' hF hh h=>⟨h,λp hp=>p.2.keep hF (λk hk=>hh k hk.1) (h1.Xq p hp)⟩);rw[World.size_alloc] at h2;obtain⟨fn1,hf1,hf2,hf3⟩:=hc;have h3:=h2.perm (Bs:=(QdM (w.heap.size+1) (Qbk fn a.tmps #[p] assign body w.heap.size) Γ::A s0 g0)++[objA w.heap.size defO]) (by refine Perm.cons _ ?_;exact (perm_append_comm (l₁:=[objA w.heap.size defO]) (l₂:=A s0 g0)));have hW:∃W,(w.alloc defO).alloc (.loop (Qbk fn a.tmps #[p] assign body w.heap.size))=W:=⟨_,rfl⟩;obtain⟨W,hW⟩:=hW;have hen:=run_enterLoop_outer (P:=P) (w:=w) fn a.tmps #[p] assign body
 change _=Result.ok _ ((w.alloc defO).alloc (.loop (Qbk fn a.tmps #[p] assign body w.heap.size))) at hen
 rw[hW] at h2 h3 hen;obtain⟨caps,hgv,hcalls⟩:=Qn4 (jump:=jump) rfl hj h3 hg hseq hp hne hbody;refine⟨w.heap.size+1,[mark w.heap.size],W,{ target:=.fn (.func f1) caps.toArray,args:=#[.func (.yield (w.heap.size+1)) #[] #[]] },W,f1,#[.func (.yield (w.heap.size+1)) #[] #[]]++caps.toArray,W,hen,?_,λ_ _=>trivial,?_,λhh=>(by cases hh),?_⟩
 ·simp[resolve,Deferred.ofValue,hgv];rfl
 ·simp only[invoke,callFunc,Sem.run_bind,Sem.run_pure,run_program,Zj,hf1,hf2,hf3,ZL,if_false]
 ·refine callsIn_wide.2 (Calls.mono (callsIn_wide.1 hcalls) ?_);rintro e w' ⟨v,x,rfl,h4⟩;have fin:∀(As:List Atom) (w'':World),St M w0 n Γ (As++[objA w.heap.size defO]) a w''->∃M',(∀M0 E,QbZ M0 E M->Qk7 M0 E w.heap.size M')/\St M' w0 n Γ (objA w.heap.size defO::As) { a with defers:=[mark w.heap.size]++a.defers } w'':=λAs w'' h5=>by
   have h6:=h5.perm (Bs:=objA w.heap.size defO::As) (perm_append_comm (l₁:=As) (l₂:=[objA w.heap.size defO]));exact⟨⟨M.m,M.b,[mark w.heap.size]++M.d⟩,λM0 E hpl=>⟨hpl.b,hpl.m,hpl.d,by simp[hpl.e]⟩,⟨h6.size,by simp[h6.defers],h6.grow,h6.m0,h6.own,h6.fresh,h6.apart,h6.Xq⟩⟩
  cases t with
  | inl s=>refine⟨none,_,run_endLoop (h4.own _ (Zp ..)).1 (by simp[Qbk]),?_⟩;obtain⟨M',hM',h5⟩:=fin (A s x) _ ((h4.putL { Qbk fn a.tmps #[p] assign body w.heap.size with state:=.exhausted } rfl).sub (sublist_cons_self ..));exact hQ s x _ _ _ M' rfl hM' h5
  | inr s=>
   refine⟨some jump,_,run_endLoop (h4.own _ (Zp ..)).1 (by simp),?_⟩;obtain⟨M',hM',h5⟩:=fin (A s x) _ ((h4.putL { Qbk fn a.tmps #[p] assign body w.heap.size with state:=.exhausted,pending:=some jump } rfl).sub (sublist_cons_self ..));have:=hX s x _ _ _ M' rfl hM' h5
   cases hj with
   | ret=>exact wpIn_ret this
   | exit id=>exact wpIn_exit this
def QsG {l₀:Nat} {LB:Atom} {Q:Exit->Act->World->Prop} (hj:Qm2 jump jx) (hLB:∀F w,LB.ok F w->∃r,w.heap[l₀]?=some (.loop r)) (hm:LB∈A s0 g0) (hst:St M w0 n Γ (A s0 g0) a w) (hg:Fct Γ g (QaN f1 Tc)) (hc:Qj P f1) (hseq:QpW P f1 Tc k Y s0 t) (hp:p<n) (hne:(Γ.all λq=>q.1 !=p)=true)
  (hbody:Qqt P n Γ A k p assign body jx Y)
  (hQ:∀s x w',t=.inl s->St M w0 n Γ (A s x) a w'->Q .normal a w')
  (hX:∀s x w',t=.inr s->St M w0 n Γ (A s x) a w'->Q jx a w'):(Code.rangeFunc g #[p] assign body).wpIn (Fence.wide.inRound l₀) 0 P Q a w:=by
 obtain⟨r₀,hr₀⟩:=hLB _ _ (hst.own _ hm);refine wpIn_rangeFunc λfn _=>?_;have h2:St M w0 n Γ (QdM w.heap.size (Qbk fn a.tmps #[p] assign body r₀.defers) Γ::A s0 g0) a (w.alloc (.loop (Qbk fn a.tmps #[p] assign body r₀.defers))):=hst.layA (.loop (Qbk fn a.tmps #[p] assign body r₀.defers)) (λ_=>Iff.rfl) (λF w' hF hh h=>⟨h,λp hp=>p.2.keep hF (λk hk=>hh k hk.1) (hst.Xq p hp)⟩);obtain⟨fn1,hf1,hf2,hf3⟩:=hc;have h3:St M w0 n Γ ((QdM w.heap.size (Qbk fn a.tmps #[p] assign body r₀.defers) Γ::A s0 g0)++[]) a (w.alloc (.loop (Qbk fn a.tmps #[p] assign body r₀.defers))):=by rw[ZX];exact h2
 have hW:∃W,w.alloc (.loop (Qbk fn a.tmps #[p] assign body r₀.defers))=W:=⟨_,rfl⟩;obtain⟨W,hW⟩:=hW;have hen:=run_enterLoop_inner (P:=P) (w:=w) hr₀ fn a.tmps #[p] assign body
 change _=Result.ok _ (w.alloc (.loop (Qbk fn a.tmps #[p] assign body r₀.defers))) at hen
 rw[hW] at h2 h3 hen;obtain⟨caps,hgv,hcalls⟩:=Qn4 (jump:=jump) rfl hj h3 hg hseq hp hne hbody;refine⟨w.heap.size,[],W,{ target:=.fn (.func f1) caps.toArray,args:=#[.func (.yield w.heap.size) #[] #[]] },W,f1,#[.func (.yield w.heap.size) #[] #[]]++caps.toArray,W,hen,?_,λ_ _=>trivial,?_,λhh=>(by cases hh),?_⟩
 ·simp[resolve,Deferred.ofValue,hgv];rfl
 ·simp only[invoke,callFunc,Sem.run_bind,Sem.run_pure,run_program,Zj,hf1,hf2,hf3,ZL,if_false]
 ·refine CallsIn.inRound l₀ (callsIn_wide.2 (Calls.mono (callsIn_wide.1 hcalls) ?_));rintro e w' ⟨v,x,rfl,h4⟩;rw[ZX] at h4
  cases t with
  | inl s=>refine⟨none,_,run_endLoop (h4.own _ (Zp ..)).1 (by simp[Qbk]),?_⟩;exact hQ s x _ rfl ((h4.putL { Qbk fn a.tmps #[p] assign body r₀.defers with state:=.exhausted } rfl).sub (sublist_cons_self ..))
  | inr s=>
   refine⟨some jump,_,run_endLoop (h4.own _ (Zp ..)).1 (by simp),?_⟩;have:=hX s x _ rfl ((h4.putL { Qbk fn a.tmps #[p] assign body r₀.defers with state:=.exhausted,pending:=some jump } rfl).sub (sublist_cons_self ..))
   cases hj with
   | ret=>exact wpIn_ret this
   | exit id=>exact wpIn_exit this
end
section
variable {l m:Nat} {F:Fence} {Q:Exit->Act->World->Prop}
def QgN {s:Nat} {b:Bool} {x y:Code} (i:Nat) (hst:St M w0 n Γ As a w) (hi:Γ[i]?=some (s,tv (.bool b))) (ht:b=true->x.wpIn F m P Q a w) (hf:b=false->y.wpIn F m P Q a w):(Code.cond (.tmp s) x y).wpIn F m P Q a w:=by have hv:a.eval (.tmp s)=.bool b:=hst.Xq (s,tv (.bool b)) (Zm hi);exact wpIn_cond_split hv ht hf
def Qmv {σ ρ:Type} {c:Code} (body:σ->Option (σ⊕ρ)) (I:σ->Act->World->Prop) (out:ρ) (s0:σ) (h:Qu body s0=some out) (h0:I s0 a w)
  (round:∀s o a w (K:Act->World->Prop),I s a w->body s=some o->(∀r,o=.inr r->r=out)->(∀s' a w,o=.inl s'->I s' a w->K a w)->c.wpIn F m P (Exit.then K Q) a w):(Code.loop c).wpIn F m P Q a w:=by
 obtain⟨n,hn⟩:=Qc7.1 h;intro b k cs hro hb hr;have key:∀n s a w,iter body n s=some out->I s a w->∃e a' w',Q e a' w'/\ArrivesIn (Machine.fenced P F) P (lone (b.atR a (.code c::.inLoop c::k)) cs w) b k cs e a' w':=by
  intro n
  induction n with
  | zero=>intro s a w h;cases h
  | succ n ih=>
   intro s a w h hI;simp only[iter] at h
   cases hbo:body s with
   | none=>rw[hbo] at h;cases h
   | some o=>
    rw[hbo] at h;obtain⟨e,a₁,w₁,hq,harr⟩:=round s o a w (λa' w'=>∃s',o=.inl s'/\I s' a' w') hI hbo (by rintro r rfl;simpa using h) (λs' _ _ h1 h2=>⟨s',h1,h2⟩) b (.inLoop c::k) cs hro hb hr
    cases e with
    | normal=>obtain⟨s',rfl,hI'⟩:=hq;obtain⟨e₂,a₂,w₂,hq₂,harr₂⟩:=ih s' a₁ w₁ h hI';exact⟨e₂,a₂,w₂,hq₂,.of_steps (StepsIn.trans harr (.one (fenced_calm hb hr rfl) stepR_inLoop)) harr₂⟩
    | exit id=>exact⟨_,a₁,w₁,hq,.pass (x:=.inLoop c) rfl (λ_ _=>.inl (by simp)) harr⟩
    | goto l=>exact⟨_,a₁,w₁,hq,.pass (x:=.inLoop c) rfl (λ_ _=>.inl (by simp)) harr⟩
    | ret=>exact⟨_,a₁,w₁,hq,.pass (x:=.inLoop c) rfl (λ_ _=>.inl (by simp)) harr⟩
    | panic ch=>exact⟨_,a₁,w₁,hq,.pass (x:=.inLoop c) rfl (λ_ _=>.inl (by simp)) harr⟩
    | outgrown=>exact⟨_,a₁,w₁,hq,.pass (x:=.inLoop c) rfl (λ_ _=>.inl (by simp)) harr⟩
 obtain⟨e,a',w',hq,harr⟩:=key n s0 a w hn h0;exact⟨e,a',w',hq,.of_steps (.one (fenced_calm hb hr rfl) stepR_loop) harr⟩
def Qay {x y:Code} (h:∀K:Act->World->Prop,(∀a w,y.wpIn F m P Q a w->K a w)->x.wpIn F m P (Exit.then K Q) a w):(Code.seq x y).wpIn F m P Q a w:=wpIn_seq_k h
def QgO (h:Q .normal a w):Code.skip.wpIn F m P Q a w:=wpIn_skip h
def QiH {id:Nat} (h:Q (.exit id) a w):(Code.exit id).wpIn F m P Q a w:=wpIn_exit h
def Qe4 {id:Nat} {c:Code} (h:c.wpIn F m P (Exit.inBlock id Q) a w):(Code.block id c).wpIn F m P Q a w:=wpIn_block h
def Qbd {ops:List Oper} {l:Nat} {id:Nat} {draw:Bool} {is:List Info} (hm:P.follows .mixedOrders=true) (Ns:List Ver)
  (hst:St M w0 n Γ As a w) (hrun:∀new,Run P ops (verA As Ns) new 0 Γ ops is) (hchk:(QrV ops&&chk ops is ((verA As Ns).map (·.ds)) (Γ.map (·.1)) As.length (verA As Ns).length n)=true)
  (hQ:∀new a' w',St M w0 n (outG ops is Γ new) (Qe0 (verA As Ns) is new) a' w'->Q .normal a' w'):(Code.region id ops.toArray draw).wpIn (Fence.wide.inRound l) 0 P Q a w:=
 wp_rgR hm (by have:=hchk;simp only[Zk] at this;exact this.1) Ns hst hrun (by have:=hchk;simp only[Zk] at this;exact this.2) hQ
end
def QsH {fn:Func} {rs:List ResultVar} {Ts:List Ty} {E:List Atom} {N:Value->List Atom} {T:Value->Ty} {D:Nat} (x:Value) (is:List Nat) (hpl:Qk7 M0 E D M) (hst:St M w0 n Γ (objA D defO::As) a w) (hrs:fn.results=rs.toArray) (h:Qd0 P Γ (objA D (.deferred none)::As) rs Ts) (hd:QbQ is=true) (hN:is.filterMap (λi=>(objA D (.deferred none)::As)[i]?)=N x) (hT:T x=Qi1 Ts):RetM P fn M0 E w0 N T .ret a w:=show RetM P fn M0 E w0 N T .normal a w from QtT x is hpl hst hrs h hd hN hT
end
def QxT {α:Type} {R:Rep α} {xs:List α}:One (tsn R xs):=λF w v h=>QbV F w v h.1
@[reducible] def rSn {α : Type} (R : Rep α) : Rep (List α) := ⟨λx => [tsn R x],1,false,λ_ => rfl,λx T h F w v hv => by simp at h; subst h; exact QxT F w v hv,λ_ => rfl⟩
theorem Qv3 {Ts:List Ty}:One (tptr Ts):=λF w v h=>by obtain⟨b,off,hv,_⟩:=h;rw[hv];rfl
@[reducible] def rPtr {α : Type} (R : Rep α) : Rep α := ⟨λx => [tptr (R.cs x)],1,false,λ_ => rfl,λx T h F w v hv => by simp at h; subst h; exact Qv3 F w v hv,λ_ => rfl⟩
section
variable {α:Type} {R:Rep α} {e:TypeId} {xs ys zs:List α} {v:Value}
def ownN (R:Rep α) (e:TypeId) (xs:List α) (v:Value):Atom:=⟨(own R e xs v).fp,λF w=>(own R e xs v).ok F w/\(xs=[]->v=nilV),λhF hh hf h=>⟨(own R e xs v).keep hF hh hf h.1,h.2⟩⟩
def QlD:Qaz [ownN R e xs v]=Qaz [own R e xs v]:=by funext k;exact propext (by rw[Qad,Qad];exact Iff.rfl)
def Qpn {M:Blk} {v':Value}:next M [ownN R e xs v] [ownN R e zs v']=next M [own R e xs v] [own R e zs v']:=by unfold next;rw[QlD,QlD]
section
variable {P:Program} {o:Oper} {Γ:List (Nat×Ty)} {U E:List Atom} {N:Value->List Atom} {T:Value->Ty}
def _root_.Go.Sim.OpJ.useN (h:OpJ P o Γ (own R e xs v::U) E N T):OpJ P o Γ (ownN R e xs v::U) E N T:=OpJ.Xw (λ_ _ h=>h.1) (λ_ h=>h) h
def _root_.Go.Sim.OpJ.eatN (h:OpJ P o Γ U [own R e xs v] (λx=>[own R e zs x]) T) (hz:zs≠[]):OpJ P o Γ U [ownN R e xs v] (λx=>[ownN R e zs x]) T:=by
 intro M w a hM hU hE hap hUE he;have hg:=hE _ (Zg.2 rfl);refine (h M w a hM hU (λA hA=>by obtain rfl:=Zg.1 hA;exact⟨hg.1.1,hg.2⟩) (pairwise_singleton _ _) (λA hA B hB k hk hkB=>by obtain rfl:=Zg.1 hB;exact hUE A hA _ (Zg.2 rfl) k hk hkB) he).mono ?_;rintro u w' ⟨x,hs,hm,ht⟩;refine⟨x,by rw[QlD];exact hs,⟨pairwise_singleton _ _,λA hA k hk=>?_,λA hA=>?_⟩,by rw[Qpn];exact ht⟩
 ·obtain rfl:=Zg.1 hA;rw[QlD];exact hm.place _ (Zg.2 rfl) k hk
 ·obtain rfl:=Zg.1 hA;rw[Qpn];exact⟨hm.ok _ (Zg.2 rfl),λhn=>(hz hn).elim⟩
end
def Qv4 {F:Blk} {w:World} (h:(ownN R e xs v).ok F w):∃ad n c,v=.slice ad n c/\ad.isNone=xs.isEmpty:=by
 rcases QaC h.1 with⟨hv,hn⟩ | ⟨b,cap,cur,hv,_⟩
 ·exact⟨none,0,0,hv,by rw[hn];rfl⟩
 ·refine⟨_,_,_,hv,?_⟩
  cases xs with
  | nil=>have:=h.2 rfl;rw[hv] at this;cases this
  | cons x xs=>rfl
section
variable {Γ:List (Nat×Ty)} {P:Program} {d:Option Tmp} {ty:TypeId} {pos:String} {af:Array Edge} {g:Option (Nat×Bool)} {x:Operand} {t e':TypeId}
def Qt1 {t2:TypeId} (ht:P.underlying t=some (.slice e')) (hx:Fct Γ x (tv v)):OpJ P ⟨d,.binOp .neq t x (.const (.slice none 0 0)) t2,ty,pos,af,g⟩ Γ [ownN R e xs v] [] (λ_=>[]) (λ_=>tv (.bool !xs.isEmpty)):=Qdo λM w a hU he=>by obtain⟨ad,n,c,hv,hn⟩:=Qv4 (hU _ (Zg.2 rfl));have hx:=hx.val (by simp[Op.operands]) he;refine⟨.bool !ad.isNone,?_,by rw[hn];rfl⟩;simp[execOp,hx,hv,Qg8,eqGuard,binOp,QhJ ht]
end
section
variable {M:Fr} {w0:World} {n:Nat} {Γ:List (Nat×Ty)} {A B:Atom} {As:List Atom} {a:Act} {w:World}
def St.reA (hfp:B.fp=A.fp) (hok:∀F w,A.ok F w->B.ok F w) (h:St M w0 n Γ (A::As) a w):St M w0 n Γ (B::As) a w:=by
 have e:fps (B::As)=fps (A::As):=by funext j;unfold fps;simp[hfp]
 have e2:hold M.m (B::As)=hold M.m (A::As):=by unfold hold;rw[e]
 refine⟨h.size,h.defers,h.grow,h.m0,?_,?_,?_,by rw[e2];exact h.Xq⟩
 ·rw[e2];intro Z hZ;rcases Zo.1 hZ with rfl | hZ
  ·exact hok _ _ (h.own A (by simp))
  ·exact h.own Z (by simp[hZ])
 ·intro Z hZ;rcases Zo.1 hZ with rfl | hZ
  ·rw[hfp];exact h.fresh A (by simp)
  ·exact h.fresh Z (by simp[hZ])
 ·have ha:=h.apart;unfold QdI at ha ⊢;rw[pairwise_cons] at ha ⊢;refine⟨λZ hZ=>?_,ha.2⟩;rw[hfp];exact ha.1 Z hZ
def St.unN (h:St M w0 n Γ (ownN R e xs v::As) a w):St M w0 n Γ (Sim.own R e xs v::As) a w:=St.reA (A:=ownN R e xs v) (B:=Sim.own R e xs v) rfl (λ_ _ h=>h.1) h
def St.nilN (R:Rep α) (e:TypeId) (h:St M w0 n Γ As a w):St M w0 n Γ (ownN R e ([]:List α) nilV::As) a w:=St.reA (A:=Sim.own R e ([]:List α) (.slice none 0 0)) (B:=ownN R e ([]:List α) nilV) rfl (λ_ _ h=>⟨h,λ_=>rfl⟩) (h.nil R e)
end
end
section
variable {Γ:List (Nat×Ty)} {P:Program} {d:Option Tmp} {ty:TypeId} {pos:String} {af:Array Edge} {g:Option (Nat×Bool)} {x y:Operand} {t t2 e:TypeId} {α:Type} {R:Rep α} {bytes:Nat} {z:Value} {v:Value}
def QeC {m:Nat} {xs:List α} (hp:Fct Γ x (tv (Qav v m))) (hne:xs≠[]):OpJ P ⟨d,.nilCheck x,ty,pos,af,g⟩ Γ [own R e xs v] [] (λ_=>[]) (λ_=>tv (Qav v m)):=
 Qdo λM w a hU he=>by
  have hv:=hp.val (by simp[Op.operands]) he;rcases QaC (hU _ (Zg.2 rfl)) with⟨_,hn⟩ | ⟨b,cap,cur,hvv,_⟩
  ·exact (hne hn).elim
  ·subst hvv;exact⟨_,by simp[execOp,hv,Qav],rfl⟩
def Qqu {m off:Nat} {xs:List α} (hp:Fct Γ x (tv (padd (Qav v m) off))) (hne:xs≠[]):OpJ P ⟨d,.nilCheck x,ty,pos,af,g⟩ Γ [own R e xs v] [] (λ_=>[]) (λ_=>tv (padd (Qav v m) off)):=
 Qdo λM w a hU he=>by
  have hv:=hp.val (by simp[Op.operands]) he;rcases QaC (hU _ (Zg.2 rfl)) with⟨_,hn⟩ | ⟨b,cap,cur,hvv,_⟩
  ·exact (hne hn).elim
  ·subst hvv;exact⟨_,by simp[execOp,hv,Qav,padd],rfl⟩
def Qm3 {k m:Nat} {xs:List α} {i:Int} {q:Value} {u:α} (hp:Fct Γ x (tv (Qav v m))) (h:idx xs i=some u):OpJ P ⟨d,.nilCheck x,ty,pos,af,g⟩ Γ [own (Qbn R k) e (QbD xs i q) v] [] (λ_=>[]) (λ_=>tv (Qav v m)):=QeC hp (QaR (Qk6 h))
def Qnv {β:Type} (l:List β):∀(n j:Nat),((replicate n l).flatten)[j]?=if j<n * l.length then l[j % l.length]? else none
 | 0,j=>by simp
 | n+1,j=>by
  have e:(n+1) * l.length=n * l.length+l.length:=Nat.succ_mul _ _;rw[replicate_succ,flatten_cons,getElem?_append];split
  ·rename_i h;rw[Zb (by omega),Nat.mod_eq_of_lt h]
  ·rename_i h;rw[Qnv l n];by_cases hj:j - l.length<n * l.length
   ·rw[Zb hj,Zb (by omega),Nat.mod_eq_sub_mod (a:=j) (b:=l.length) (by omega)]
   ·rw[Zc hj,Zc (by omega)]
def Qt2 (zs:Array Value) (n:Nat):(Builtin.zeroCells zs n).toList=(replicate n zs.toList).flatten:=by
 apply ext_getElem?;intro j;rw[Qnv];unfold Builtin.zeroCells;by_cases hj:j<n * zs.size
 ·have h0:j % zs.size<zs.size:=Nat.mod_lt _ (by
   rcases Nat.eq_zero_or_pos zs.size with h | h
   ·rw[h] at hj;omega
   ·exact h)
  rw[Zb (by simpa using hj)];simp[hj,h0]
 ·rw[Zc (by simpa using hj)];simp[Nat.not_lt.1 hj]
def Qrr {xs ys:List α} {x0:α} {lo:Int} (ht:P.underlying t=some (.slice e)) (hz:TOk P e R bytes z) (hz0:∀F w,(R.ty x0).ok F w z) (hx:Fct Γ x (tv (cutV R.n v lo xs.length))) (hs:sub xs lo xs.length=some ys):
  OpJ P ⟨d,.call { callee:=.builtin .clear,args:=#[x],argTypes:=#[t] },ty,pos,af,g⟩ Γ [] [own R e xs v] (λ_=>[own R e (xs.take lo.toNat++replicate ys.length x0) v]) (λ_=>tany):=by
 intro M w A hM _ hE _ _ he;obtain⟨ho,hfp⟩:=hE _ (Zg.2 rfl);have hgiv:=Qc6 hE;have h1:=hx.val (by simp[Op.operands,Call.operands]) he;obtain⟨ti,hti,htz,hsz,_⟩:=hz.info;obtain⟨c0,c1,c2,hd,hdl⟩:=Qge hs;have hzr:∀w,(zeroValue e).run P w=.ok z w:=λw=>by simp[zeroValue,typeInfo,hti,htz]
 have hex:∀r w',(Builtin.clear_ #[t] ty #[cutV R.n v lo xs.length]).run P w=.ok r w'->(execOp A.eval (⟨d,.call { callee:=.builtin .clear,args:=#[x],argTypes:=#[t] },ty,pos,af,g⟩:Oper)).run P w=.ok (.value r) w':=by intro r w' hr;simp only[execOp,resolve,invoke,builtin,Sem.run_bind,Sem.run_pure,Zj,map_toArray,Yd,Yn,h1,hr]
 have hyl:(xs.take lo.toNat++replicate ys.length x0).length=xs.length:=by simp only[Zd,ZE,length_replicate];omega
 rcases QaC ho with⟨hv,hxs⟩ | ⟨b,cap,cur,hv,hbk,hlc,hmx,hcs,hcl⟩
 ·subst hv;subst hxs;obtain⟨a1,rfl⟩:=QiE (m:=R.n) hs;have hr:=hex (.tuple #[]) w (by rw[a1];simp[Builtin.clear_,run_underlying ht]);simp only[Does,hr];refine⟨undef,Step.refl _ _,Qbx (λk hk=>⟨.inl (Qad.2 hk),hM k (hfp k hk)⟩) ?_,trivial⟩;simp only[take_nil,Zi,replicate_zero,ZX];exact Qg9
 ·subst hv;by_cases hy:ys=[]
  ·have hl0:ys.length=0:=by rw[hy];rfl
   obtain⟨ad,c,hc1⟩:∃ad c,cutV R.n (.slice (some ⟨b,0,none⟩) xs.length cap) lo xs.length=.slice ad ys.length c:=⟨_,_,by simp only[cutV,hdl];rfl⟩;have hr:=hex (.tuple #[]) w (by rw[hc1,hl0];cases ad<;>simp[Builtin.clear_,run_underlying ht]);simp only[Does,hr];refine⟨undef,Step.refl _ _,Qbx (λk hk=>⟨.inl (Qad.2 hk),hM k (hfp k hk)⟩) ?_,trivial⟩;have hxx:xs.take lo.toNat++replicate ys.length x0=xs:=by rw[hl0,replicate_zero,ZX,Zt (by omega)]
   rw[hxx];refine Atom.keep _ (λk hk=>?_) (λ_ _=>rfl) (λ_ _=>rfl) ho;refine Qb5 (Zs _) hgiv (λB hB j hj=>?_) hk;obtain rfl:=Zg.1 hB;exact .inl (Qad.2 hj)
  ·have hk1:=Qly (m:=R.n) (b:=b) (n:=xs.length) hs hlc hy;obtain⟨vs,hvs⟩:∃vs,vs=(Builtin.zeroCells z.cells ys.length).toList:=⟨_,rfl⟩;have hfl:vs=(replicate ys.length z.cells.toList).flatten:=by rw[hvs,Qt2]
   have hzn:z.cells.toList.length=R.n:=by simpa using hz.zc
   have hnl:vs.length=ys.length * R.n:=by rw[hfl];simp[length_flatten,hz.zc]
   have hcells:QO ((replicate ys.length x0).flatMap R.cs) (free M w) w vs:=by
    obtain⟨hc1,_,_⟩:=Qcj (hz0 (free M w) w);have e:(replicate ys.length x0).flatMap R.cs=(replicate ys.length (R.cs x0)).flatten:=by rw[flatMap_def,map_replicate]
    rw[e,hfl];refine⟨by simp[length_flatten,R.len,hz.zc],λj T u hT hu=>?_⟩;rw[Qnv] at hT hu;split at hT
    ·rename_i hj;rw[Zb (by rw[hzn];rwa [R.len] at hj)] at hu;rw[R.len] at hT;rw[hzn] at hu;exact hc1.2 _ T u hT hu
    ·cases hT
   have hone:∀u∈vs,u.oneCell'=true:=by obtain⟨_,h2,_⟩:=Qcj (hz0 (free M w) w);intro u hu;rw[hfl] at hu;obtain⟨l,hl,hul⟩:=mem_flatten.1 hu;rw[eq_of_mem_replicate hl] at hul;exact h2 u hul
   have hxn:(lo.toNat+ys.length) * R.n<=xs.length * R.n:=Nat.mul_le_mul_right _ (by omega);rw[Nat.add_mul] at hxn;have hcapn:xs.length * R.n<=cap * R.n:=Nat.mul_le_mul_right _ hlc;have hst:=run_storeCells_at P b (lo.toNat * R.n) e vs 0 cur w hbk (by rw[hnl];omega) hone;simp only[Nat.add_zero] at hst;obtain⟨n1,hn1⟩:∃n1,ys.length=n1+1:=⟨ys.length - 1,by have:=length_pos_iff.2 hy;omega⟩;have hr:=hex (.tuple #[]) (w.setRow b (splice cur.toList (lo.toNat * R.n) vs).toArray) (by rw[hk1,hn1];rw[hvs,hn1] at hst;rw[hvs,hn1];simp only[Builtin.clear_,getElem?_toArray,getElem?_cons_zero,Sem.run_bind,run_underlying ht,Zj,hzr,hst,Sem.run_pure,splice]);simp only[Does,hr];have heat:∀k,Qaz [own R e xs (.slice (some ⟨b,0,none⟩) xs.length cap)] k↔k=b:=λk=>by rw[Qad,Qa9]
   refine⟨undef,Qex ((heat b).2 rfl),Qbx (λk hk=>?_) ?_,trivial⟩
   ·rw[Qa9] at hk;rw[hk];exact⟨.inl ((heat b).2 rfl),by simpa using (Array.getElem?_eq_some_iff.1 hbk).1⟩
   ·have key:∀F',(∀k,free M w k->F' k)->(own R e (xs.take lo.toNat++replicate ys.length x0) (.slice (some ⟨b,0,none⟩) (xs.take lo.toNat++replicate ys.length x0).length cap)).ok F' (w.setRow b (splice cur.toList (lo.toNat * R.n) vs).toArray):=?key
    ·have:=key _ (λk hk=>Qb5 (w':=w.setRow b (splice cur.toList (lo.toNat * R.n) vs).toArray) (N:=[own R e (xs.take lo.toNat++replicate ys.length x0) (.slice (some ⟨b,0,none⟩) xs.length cap)]) (by simp) hgiv (λB hB j hj=>by
      obtain rfl:=Zg.1 hB;rw[Qa9] at hj;exact .inl ((heat j).2 hj)) hk)
     rw[hyl] at this;exact this
    intro F' hF';refine Qfq (cur:=(splice cur.toList (lo.toNat * R.n) vs).toArray) (setRow_heap w b cur _ e _ hbk) (by rw[hyl];exact hlc) hmx (by rw[size_toArray,Qe1 _ _ _ (by rw[hnl];simp;omega)];simpa using hcs) ?_;rw[hyl];have e1:(splice cur.toList (lo.toNat * R.n) vs).take (xs.length * R.n)=splice (cur.toList.take (xs.length * R.n)) (lo.toNat * R.n) vs:=by
     apply ext_getElem?;intro j;rw[getElem?_take,Qa6 _ _ _ _ (by simp;omega),Qa6 _ _ _ _ (by simp;omega),getElem?_take];by_cases hj:j<xs.length * R.n
     ·rw[Zb hj,Zb hj]
     ·rw[Zc hj,Zc hj,Zc (by omega)]
    simp only;rw[e1];have e2:(xs.take lo.toNat++replicate ys.length x0).flatMap R.cs=splice (xs.flatMap R.cs) (lo.toNat * R.n) ((replicate ys.length x0).flatMap R.cs):=by have t1:=Row.Xv R xs 0 lo.toNat (by omega);simp only[drop_zero,Nat.zero_mul] at t1;rw[Zx,t1];unfold splice;rw[drop_of_length_le (l:=xs.flatMap R.cs) (by rw[Qag,Qag,length_replicate,<-Nat.add_mul];exact Nat.mul_le_mul_right _ (by omega)),ZX]
    rw[e2];exact (hcl.splice hcells (by rw[Qag,Qag,length_replicate];omega)).Xs hF' (λk hk=>setRow_other w b k _ (λe=>hk.2 (hgiv k ((heat k).2 e))))
def Qv5 {xs ys:List α} {hi:Int} {F:Blk} {w:World} (hs:sub xs 0 hi=some ys) (h:(own R e xs v).ok F w):(own R e ys (cutV R.n v 0 hi)).ok F w:=by
 rcases QaC h with⟨hv,hxs⟩ | ⟨b,cap,cur,hv,_⟩
 ·subst hv;subst hxs;obtain⟨a1,rfl⟩:=QiE (m:=R.n) hs;rw[a1];exact Qg9
 ·obtain⟨_,_,c2,hya,_⟩:=Qge hs;subst hv;rw[Qmp,hya];simp only[Int.toNat_zero,drop_zero,Nat.sub_zero];exact QnY h c2
def QxU {xs:List α} {hi:Int} {ys:List α} {F:Blk} {w:World} (hs:sub xs 0 hi=some ys) (h:(own R e xs v).ok F w) (k:Nat):(own R e ys (cutV R.n v 0 hi)).fp k↔(own R e xs v).fp k:=by
 rcases QaC h with⟨hv,hxs⟩ | ⟨b,cap,cur,hv,_⟩
 ·subst hv;subst hxs;obtain⟨a1,rfl⟩:=QiE (m:=R.n) hs;rw[a1]
 ·subst hv;rw[Qmp,Qa9,Qa9]
end
section
variable {M:Fr} {w0 w:World} {n:Nat} {Γ:List (Nat×Ty)} {As:List Atom} {a:Act}
def St.swapA {A B:Atom} (h:St M w0 n Γ (A::As) a w) (hfp:∀k,B.fp k->A.fp k) (hok:∀F,(∀k,free (hold M.m (A::As)) w k->F k)->A.ok (free (hold M.m (A::As)) w) w->B.ok F w):St M w0 n Γ (B::As) a w:=by
 have hf:∀j,fps (B::As) j->fps (A::As) j:=by
  rintro j ⟨Z,hZ,hj⟩;rcases Zo.1 hZ with rfl | hZ
  ·exact⟨A,by simp,hfp j hj⟩
  ·exact⟨Z,by simp[hZ],hj⟩
 refine⟨h.size,h.defers,h.grow,h.m0,?_,?_,?_,λp hp=>p.2.keep (Qbl hf) (λ_ _=>rfl) (h.Xq p hp)⟩
 ·intro Z hZ;rcases Zo.1 hZ with rfl | hZ
  ·exact hok _ (Qbl hf) (h.own A (by simp))
  ·exact Z.keep (Qbl hf) (λ_ _=>rfl) (λ_ _=>rfl) (h.own Z (by simp[hZ]))
 ·intro Z hZ k hk;rcases Zo.1 hZ with rfl | hZ
  ·exact h.fresh A (by simp) k (hfp k hk)
  ·exact h.fresh Z (by simp[hZ]) k hk
 ·have ha:=pairwise_cons.1 h.apart;exact pairwise_cons.2 ⟨λZ hZ k hk=>ha.1 Z hZ k (hfp k hk),ha.2⟩
def St.cut0 {α:Type} {R:Rep α} {e:TypeId} {xs ys:List α} {v:Value} {hi:Int} (hs:Sim.sub xs 0 hi=some ys) (h:St M w0 n Γ (Sim.own R e xs v::As) a w):St M w0 n Γ (Sim.own R e ys (cutV R.n v 0 hi)::As) a w:=by have ho:=h.own (Sim.own R e xs v) (by simp);exact h.swapA (λk hk=>(QxU hs ho k).1 hk) (λF hF h0=>Qv5 hs ((Sim.own R e xs v).keep hF (λ_ _=>rfl) (λ_ _=>rfl) h0))
def St.shareCM {α:Type} {R:Rep α} {m:MpS α} {v q:Value} {Ts:List Ty} (k:Nat) (h:St M w0 n Γ (QeU R m v::box Ts q::As) a w) (hk:Ts[k]?=some (tvs v)):St M w0 n Γ (box (Ts.set k (Qco R m)) q::As) a w:=by
 have hown:=h.own (QeU R m v) (by simp);have hap:=pairwise_cons.1 h.apart;have hf:∀j,fps (box Ts q::As) j->fps (QeU R m v::box Ts q::As) j:=λj ⟨A,hA,hj⟩=>⟨A,ZP _ hA,hj⟩;have hfp:∀j,(QeU R m v).fp j->free (hold M.m (box Ts q::As)) w j:=by
  intro j hj;have hfr:=h.fresh _ (Zp) j hj;refine⟨hfr.2,?_⟩;rintro (hm | ⟨A,hA,hkA⟩)
  ·have:=h.m0 j hm;rcases hfr.1 with hb | hb
   ·exact this.2 hb
   ·omega
  ·exact hap.1 A hA j hj hkA
 have hm:(Qco R m).ok (free (hold M.m (box Ts q::As)) w) w v:=QsD hown (Qbl hf) hfp;refine (h.sub (sublist_cons_self (QeU R m v) (box Ts q::As))).swapA (λk hk=>hk) (λF hF hbox=>?_);obtain⟨b,cur,e',hq,hb,hc,h1⟩:=hbox;refine⟨b,cur,e',hq,hb,⟨by rw[hc.1];simp,λj T u hT hu=>?_⟩,h1⟩;by_cases hj:k=j
 ·subst hj;have hlt:k<Ts.length:=(Zf.1 hk).1;simp[hlt] at hT;subst hT;have hu':u=v:=(hc.2 k _ u hk hu).1;rw[hu'];exact (Qco R m).keep hF (λ_ _=>rfl) hm
 ·rw[getElem?_set_ne hj] at hT;exact T.keep hF (λ_ _=>rfl) (hc.2 j T u hT hu)
end
section
variable {Γ:List (Nat×Ty)} {P:Program} {d:Option Tmp} {ty:TypeId} {pos:String} {af:Array Edge} {g:Option (Nat×Bool)} {x y:Operand} {t:TypeId} {bytes:Nat} {z:Value} {α:Type} {R:Rep α} {m:MpS α}
def Qt3 {F:Blk} {w:World} {q:Value} (h:(QeU R m q).ok F w):q.oneCell'=true:=by
 cases m with
 | none=>have:q=.map none:=h;rw[this];rfl
 | some l=>obtain⟨b,_,_,h1,_⟩:=h;rw[h1];rfl
def QsI {q v0 qb:Value} (hz:TOk P t rVal bytes z) (hp:Fct Γ x (tv qb)) (hy:Fct Γ y (tv q)):
  OpJ P ⟨d,.store t x y,ty,pos,af,g⟩ Γ [QeU R m q] [box [tvs v0] qb] (λ_=>[box [tvs q] qb]) (λ_=>tany):=
 .say (A:=QeU R m q) (by simp) (λ_ _ h=>Qt3 h) λhq=>(QaL (R:=rVal) (a:=q) (Ts:=[tvs v0]) hz hp (hy.Xp λ_ _ _ h=>⟨h,hq⟩) (Zs _)).Xr (λA hA=>by cases hA)
def zokMp:∀F w,(rVal.ty (.map none)).ok F w (.map none):=λ_ _=>⟨rfl,rfl⟩
end

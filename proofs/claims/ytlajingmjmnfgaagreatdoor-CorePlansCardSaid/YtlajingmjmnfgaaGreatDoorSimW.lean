/- The logic's part on code that runs in a round of a range over a function. No condition. -/
import Derived.Test.YtlajingmjmnfgaaGreatDoorSimL
import Derived.RangeFuncNested
import Derived.RangeFuncCalls
import Derived.TacticsInMore
import Derived.OrdersIn
import Derived.RangeFuncRecord
import Derived.MapKept
import Derived.Laws.Cover3
import Derived.Deep.AppendSrc
set_option linter.all false
open List
namespace Go.Sim
section
variable {P:Program} {ops:Array Oper} {Q:Exit→Act→World→Prop} {l n:Nat}
theorem Qyc {o:Oper} {a:Act} {w:World} {K:Act→World→Prop} (hd:∀c,o.op≠.defer c) (h:o.wpIn Fence.wide n P a w K Q):o.wpIn (Fence.wide.inRound l) n P a w K Q:=by
 unfold Oper.wpIn at h ⊢;refine⟨fun _ _=>trivial,?_⟩;have h:=h.2;rw[show Fence.wide.round=none from rfl,Oper.semAt_none] at h;rw[Fence.inRound_round,Oper.semAt_some l _ o hd];generalize (execOp a.eval o).run P w=r at h ⊢
 match r,h with
 | .ok (.value v) w',h=>exact h
 | .ok .skip w',h=>exact h
 | .ok (.defer d) w',h=>exact h
 | .ok (.enter f args) w',h=>exact⟨fun hh=>(by cases hh),CallsIn.inRound l h.2⟩
 | .ok (.row row args) w',h=>exact⟨fun hh=>(by cases hh),h.2⟩
 | .ok (.round l f tmps assign body) w',h=>exact⟨fun hh=>(by cases hh),h.2⟩
 | .halt (.panic v) w',h=>exact h
theorem Qny {i:Nat} {a:Act} {w:World} {K:Act→World→Prop} (hd:∀(i:Nat) (o:Oper),ops[i]?=some o→∀c,o.op≠.defer c) (h:wpOpIn Fence.wide n P ops Q i K a w):wpOpIn (Fence.wide.inRound l) n P ops Q i K a w:=by
 unfold wpOpIn at h ⊢
 cases ho:ops[i]? with
 | none=>rw[ho] at h;exact h
 | some o=>
  rw[ho] at h;dsimp only at h ⊢;split
  ·rename_i hw;rw[Zc hw] at h;exact Qyc (hd i o ho) h
  ·rename_i hw;rw[Zd hw] at h;exact⟨fun _ _=>trivial,h.2⟩
theorem Qpc (hd:∀(i:Nat) (o:Oper),ops[i]?=some o→∀c,o.op≠.defer c):∀(is:List Nat) (a:Act) (w:World),wpOpsIn Fence.wide n P ops Q is a w→wpOpsIn (Fence.wide.inRound l) n P ops Q is a w
 | [],_,_,h=>h
 | i::is,a,w,h=>by rw[wpOpsIn_cons] at h ⊢;exact wpOpIn_mono (fun a w h=>Qpc hd is a w h) (Qny hd h)
theorem Qpd (hd:∀(i:Nat) (o:Oper),ops[i]?=some o→∀c,o.op≠.defer c):∀(fuel:Nat) (listed:Array Bool) (a:Act) (w:World),wpAnyIn Fence.wide n P .any ops Q fuel listed a w→wpAnyIn (Fence.wide.inRound l) n P .any ops Q fuel listed a w
 | 0,_,_,_,h=>h
 | fuel+1,listed,a,w,h=>⟨h.1,fun i hi=>wpOpIn_mono (fun a w h=>Qpd hd fuel _ a w h) (Qny hd (h.2 i hi))⟩
theorem Qnz {Inv:(Nat→Bool)→Act→World→Prop} {id:Nat} {draw:Bool} {a:Act} {w:World} (hm:draw=true→P.follows .mixedOrders=true) (hd:∀(i:Nat) (o:Oper),ops[i]?=some o→∀c,o.op≠.defer c)
  (hs:Qiv P ops Q Inv) (hac:Acyc ops) (fin:∀S a w,(∀i,i<ops.size→S i=true)→Inv S a w→Q .normal a w)
  (h0:∀w',w'=w∨w'=w.drew→Inv (fun _=>false) a w'):(Code.region id ops draw).wpIn (Fence.wide.inRound l) 0 P Q a w:=by
 cases draw with
 | false=>refine wpIn_region (Qpc hd _ _ _ ?_);rw[range_eq_range'];exact QsI hs hac fin ops.size 0 (by omega) a w (by simpa using h0 w (.inl rfl))
 | true=>
  refine wpIn_region_any (hm rfl) (Qpd hd _ _ _ _ ?_);refine QsJ hs hac fin ops.size _ a _ (by simp) ?_ ?_
  ·unfold QiE;have:=countP_le_length (p:=fun b=>!b) (l:=(Array.replicate ops.size false).toList);simpa using this
  ·have e:(fun j=>(Array.replicate ops.size false).getD j false)=fun _=>false:=by
    funext j
    simp only[Array.getD_eq_getD_getElem?,Array.getElem?_replicate];split<;>rfl
   rw[e];exact h0 w.drew (.inr rfl)
end
def QAj {P:Program} {ops:List Oper} {M:Fr} {w0:World} {n l:Nat} {Γ:List (Nat×Ty)} {As:List Atom} {a:Act} {w:World} {id:Nat} {draw:Bool} {Q:Exit→Act→World→Prop} {is:List Info} (hm:P.follows .mixedOrders=true) (hd:∀o∈ops,∀c,o.op≠.defer c) (Ns:List Ver)
  (hst:St M w0 n Γ As a w) (hrun:∀new,Run P ops (verA As Ns) new 0 Γ ops is) (hchk:chk ops is ((verA As Ns).map (·.ds)) (Γ.map (·.1)) As.length (verA As Ns).length n=true)
  (hQ:∀new a' w',St M w0 n (outG ops is Γ new) (Qd9 (verA As Ns) is new) a' w'→Q .normal a' w'):(Code.region id ops.toArray draw).wpIn (Fence.wide.inRound l) 0 P Q a w:=
 Qnk _ is (fun _ hs hac fin h0=>Qnz (fun _=>hm) (fun i o ho=>hd o (Zq (by simpa using ho))) hs hac fin h0) hst hrun (fun u A h x=>QqA As Ns u A h x) hchk hQ
def objA (b:Nat) (o:Obj):Atom:=⟨fun k=>k=b,fun _ w=>w.heap[b]?=some o,fun _ _ hf h=>(hf b rfl).trans h⟩
def Qbo (l:Nat) (r:Loop) (Γ:List (Nat×Ty)):Atom:=⟨fun k=>k=l,fun F w=>w.heap[l]?=some (.loop r)∧∀p∈Γ,p.2.ok F w (r.tmps.getD p.1 undef),fun hF hh hf h=>⟨(hf l rfl).trans h.1,fun p hp=>p.2.keep hF hh (h.2 p hp)⟩⟩
def Qaq (fn:FuncId) (tmps:Array Value) (ps:Array Tmp) (assign body:Code) (D:Nat):Loop:={ state:=.ready,pending:=none,fn,tmps,params:=ps,assign,body,defers:=D }
def mark (D:Nat):Deferred:={ target:=.collected D,args:=#[] }
abbrev defO:Obj:=.deferred (some [])
section
variable {P:Program} {M:Fr} {M0:Blk} {w0:World} {n:Nat} {Γ:List (Nat×Ty)} {As:List Atom} {a:Act} {w:World}
theorem St.putA {b:Nat} {o':Obj} {A A':Atom} (h:St M w0 n Γ (A::As) a w) (hA:∀k,A.fp k↔k=b) (hA':∀k,A'.fp k↔k=b)
  (hok:∀(F F':Blk) (w w':World),(∀k,F k→F' k)→(∀k,F k→w'.heap[k]?=w.heap[k]?)→w'.heap[b]?=some o'→A.ok F w→A'.ok F' w'):St M w0 n Γ (A'::As) a (w.putObj b o'):=by
 have hb:=h.fresh A (by simp) b ((hA b).2 rfl);have hfps:∀k,hold M.m (A'::As) k→hold M.m (A::As) k:=by
  rintro k (hk | ⟨B,hB,hk⟩)
  ·exact .inl hk
  ·rcases Zm.1 hB with rfl | hB
   ·exact .inr ⟨A,Zk ..,(hA k).2 ((hA' k).1 hk)⟩
   ·exact .inr ⟨B,Zl _ hB,hk⟩
 have hfree:∀k,free (hold M.m (A::As)) w k→free (hold M.m (A'::As)) (w.putObj b o') k:=fun k ⟨h1,h2⟩=>⟨by simpa using h1,fun hh=>h2 (hfps k hh)⟩;have hsame:∀k,k≠b→(w.putObj b o').heap[k]?=w.heap[k]?:=fun k hk=>World.putObj_heap_other hk;have hnb:∀k,free (hold M.m (A::As)) w k→k≠b:=fun k h2 e=>h2.2 (.inr ⟨A,Zk ..,(hA k).2 e⟩);have hap:=pairwise_cons.1 h.apart;refine⟨h.size,h.defers,?_,h.m0,?_,?_,pairwise_cons.2 ⟨fun B hB k hk=>hap.1 B hB k ((hA k).2 ((hA' k).1 hk)),hap.2⟩,fun p hp=>p.2.keep hfree (fun k hk=>hsame k (hnb k hk)) (h.slots p hp)⟩
 ·refine h.grow.trans (C:=fun k=>k=b) ⟨rfl,rfl,rfl,by simp,fun k _ hk=>hsame k hk⟩ ?_;rintro i rfl hi;rcases hb.1 with h1 | h1
  ·exact h1
  ·omega
 ·intro B hB;rcases Zm.1 hB with rfl | hB
  ·exact hok _ _ _ _ hfree (fun k hk=>hsame k (hnb k hk)) (World.putObj_heap_same hb.2) (h.own A (Zk ..))
  ·exact B.keep hfree (fun k hk=>hsame k (hnb k hk)) (fun k hk=>hsame k (fun e=>hap.1 B hB b ((hA b).2 rfl) (e▸hk))) (h.own B (Zl _ hB))
 ·intro B hB k hk;rw[World.putObj_size];rcases Zm.1 hB with rfl | hB
  ·exact h.fresh A (Zk ..) k ((hA k).2 ((hA' k).1 hk))
  ·exact h.fresh B (Zl _ hB) k hk
theorem St.putO {b:Nat} {o:Obj} (o':Obj) (h:St M w0 n Γ (objA b o::As) a w):St M w0 n Γ (objA b o'::As) a (w.putObj b o'):=h.putA (fun _=>Iff.rfl) (fun _=>Iff.rfl) (fun _ _ _ _ _ _ h _=>h)
theorem St.putL {b:Nat} {r:Loop} {Γl:List (Nat×Ty)} (r':Loop) (h:St M w0 n Γ (Qbo b r Γl::As) a w) (he:r'.tmps=r.tmps):St M w0 n Γ (Qbo b r' Γl::As) a (w.putObj b (.loop r')):=h.putA (fun _=>Iff.rfl) (fun _=>Iff.rfl) (fun _ _ _ _ hF hh h1 h2=>⟨h1,fun p hp=>by rw[he];exact p.2.keep hF hh (h2.2 p hp)⟩)
theorem St.layA {A:Atom} (o:Obj) (h:St M w0 n Γ As a w) (hA:∀k,A.fp k↔k=w.heap.size) (hok:∀(F:Blk) (w':World),(∀k,free (hold M.m As) w k→F k)→(∀k,k<w.heap.size→w'.heap[k]?=w.heap[k]?)→w'.heap[w.heap.size]?=some o→A.ok F w'):St M w0 n Γ (A::As) a (w.alloc o):=by
 have hlt:∀A∈As,∀k,A.fp k→k<w.heap.size:=fun A hA k hk=>(h.fresh A hA k hk).2;have hfree:∀k,free (hold M.m As) w k→free (hold M.m (A::As)) (w.alloc o) k:=by
  rintro k ⟨h1,h2⟩;refine⟨by simp;omega,?_⟩;rintro (hk | ⟨B,hB,hk⟩)
  ·exact h2 (.inl hk)
  ·rcases Zm.1 hB with rfl | hB
   ·exact absurd ((hA k).1 hk) (Nat.ne_of_lt h1)
   ·exact h2 (.inr ⟨B,hB,hk⟩)
 have hsame:∀k,k<w.heap.size→(w.alloc o).heap[k]?=w.heap[k]?:=fun k hk=>Go.RowKit.Below.heap_alloc w o k hk;refine⟨h.size,h.defers,h.grow.trans (Step.alloc w o) (fun _ hh=>hh.elim),h.m0,?_,?_,pairwise_cons.2 ⟨?_,h.apart⟩,fun p hp=>p.2.keep hfree (fun k hk=>hsame k hk.1) (h.slots p hp)⟩
 ·intro B hB;rcases Zm.1 hB with rfl | hB
  ·exact hok _ _ hfree hsame (World.alloc_heap_new w o)
  ·exact B.keep hfree (fun k hk=>hsame k hk.1) (fun k hk=>hsame k (hlt B hB k hk)) (h.own B hB)
 ·intro B hB k hk;rcases Zm.1 hB with rfl | hB
  ·obtain rfl:k=w.heap.size:=(hA k).1 hk;exact⟨.inr h.grow.size,by simp⟩
  ·have:=h.fresh B hB k hk;exact⟨this.1,by simp;omega⟩
 ·intro B hB k hk hkB;obtain rfl:k=w.heap.size:=(hA k).1 hk;exact absurd (hlt B hB _ hkB) (Nat.lt_irrefl _)
theorem St.lay (o:Obj) (h:St M w0 n Γ As a w):St M w0 n Γ (objA w.heap.size o::As) a (w.alloc o):=h.layA o (fun _=>Iff.rfl) (fun _ _ _ _ h=>h)
theorem St.called {E R N:List Atom} {w':World} (h:St M w0 n Γ (E++R) a w) (hs:Step (Qay E) w w') (hm:Made (hold M.m (E++R)) E N w w'):St M w0 n Γ (N++R) a w':=by
 have hap:=pairwise_append.1 h.apart;have hfE:∀k,Qay E k→(M.b k∨w0.heap.size≤k)∧k<w.heap.size:=fun k ⟨A,hA,hk⟩=>h.fresh A (mem_append_left _ hA) k hk;have hmE:∀k,M.m k→¬Qay E k:=fun k hk he=>by
  have h0:=h.m0 k hk;rcases (hfE k he).1 with h1 | h1
  ·exact h0.2 h1
  ·have:=h0.1;omega
 have hnext:∀k,next (hold M.m (E++R)) E N k↔hold M.m (N++R) k:=by
  intro k;constructor
  ·rintro (⟨hk | ⟨A,hA,hk⟩,hne⟩ | ⟨A,hA,hk⟩)
   ·exact .inl hk
   ·rcases Zp.1 hA with hA | hA
    ·exact (hne ⟨A,hA,hk⟩).elim
    ·exact .inr ⟨A,mem_append_right _ hA,hk⟩
   ·exact .inr ⟨A,mem_append_left _ hA,hk⟩
  ·rintro (hk | ⟨A,hA,hk⟩)
   ·exact .inl ⟨.inl hk,hmE k hk⟩
   ·rcases Zp.1 hA with hA | hA
    ·exact .inr ⟨A,hA,hk⟩
    ·exact .inl ⟨.inr ⟨A,mem_append_right _ hA,hk⟩,fun⟨B,hB,hkB⟩=>hap.2.2 B hB A hA k hkB hk⟩
 have hfree:∀k,free (hold M.m (E++R)) w k→free (hold M.m (N++R)) w' k:=by
  rintro k ⟨h1,h2⟩;refine⟨ZR h1 hs.size,fun hh=>?_⟩;rcases (hnext k).2 hh with⟨hk,_⟩ | ⟨A,hA,hk⟩
  ·exact h2 hk
  ·rcases (hm.place A hA k hk).1 with⟨B,hB,hkB⟩ | hge
   ·exact h2 (.inr ⟨B,mem_append_left _ hB,hkB⟩)
   ·omega
 have hsame:∀k,free (hold M.m (E++R)) w k→w'.heap[k]?=w.heap[k]?:=fun k ⟨h1,h2⟩=>hs.same k h1 (fun⟨A,hA,hk⟩=>h2 (.inr ⟨A,mem_append_left _ hA,hk⟩));have hfresh:∀A∈N++R,∀k,A.fp k→(M.b k∨w0.heap.size≤k)∧k<w'.heap.size:=by
  intro A hA k hk;rcases Zp.1 hA with hA | hA
  ·obtain⟨h1,h2⟩:=hm.place A hA k hk;refine⟨?_,h2⟩;rcases h1 with h1 | h1
   ·exact (hfE k h1).1
   ·exact .inr (Yu h.grow.size h1)
  ·have:=h.fresh A (mem_append_right _ hA) k hk;exact⟨this.1,ZR this.2 hs.size⟩
 refine⟨h.size,h.defers,h.grow.trans hs (fun i hi hlt=>?_),h.m0,?_,hfresh,pairwise_append.2 ⟨hm.apart,hap.2.1,?_⟩,fun p hp=>p.2.keep hfree hsame (h.slots p hp)⟩
 ·rcases (hfE i hi).1 with h1 | h1
  ·exact h1
  ·omega
 ·intro A hA;rcases Zp.1 hA with hA | hA
  ·exact A.keep (fun k ⟨h1,h2⟩=>⟨h1,fun hh=>h2 ((hnext k).2 hh)⟩) (fun _ _=>rfl) (fun _ _=>rfl) (hm.ok A hA)
  ·refine A.keep hfree hsame (fun k hk=>hs.same k (h.fresh A (mem_append_right _ hA) k hk).2 ?_) (h.own A (mem_append_right _ hA));rintro ⟨B,hB,hkB⟩;exact hap.2.2 B hB A hA k hkB hk
 ·intro A hA B hB k hk hkB;rcases (hm.place A hA k hk).1 with⟨C,hC,hkC⟩ | h1
  ·exact hap.2.2 C hC B hB k hkC hkB
  ·have:=(h.fresh B (mem_append_right _ hB) k hkB).2;omega
theorem QmS {E:List Atom} (hM:∀k,M0 k→k<w.heap.size) (hE:Qe5 M0 E w) (hap:QcL E) (ha:a.tmps.size=n) (hd:a.defers=[]) (hΓ:∀p∈Γ,p.2.ok (free M0 w) w (get a p.1)):
  ∃M,Qbd M0 E M∧St M w n Γ E a w:=by
 have hpl:Qbd M0 E ⟨fun k=>M0 k∧¬Qay E k,Qay E,[]⟩:=by
  refine⟨rfl,fun k=>⟨fun hk=>?_,?_⟩,fun k hk=>hk.2,rfl⟩
  ·by_cases he:Qay E k
   ·exact .inr he
   ·exact .inl ⟨hk,he⟩
  ·rintro (hk | hk)
   ·exact hk.1
   ·exact QdI hE k hk
 have hF:∀k,free M0 w k→free (hold (fun k=>M0 k∧¬Qay E k) E) w k:=by
  rintro k ⟨h1,h2⟩;refine⟨h1,?_⟩;rintro (hm | hm)
  ·exact h2 hm.1
  ·exact h2 (QdI hE k hm)
 exact⟨_,hpl,⟨ha,hd,Step.refl _ _,fun k hk=>⟨hM k hk.1,hk.2⟩,fun A hA=>A.keep hF (fun _ _=>rfl) (fun _ _=>rfl) (hE A hA).1,fun A hA k hk=>⟨.inl ⟨A,hA,hk⟩,hM k ((hE A hA).2 k hk)⟩,hap,fun p hp=>p.2.keep hF (fun _ _=>rfl) (hΓ p hp)⟩⟩
theorem Ql6 {E N:List Atom} (is:List Nat) (hpl:Qbd M0 E M) (hst:St M w0 n Γ As a w) (hd:Qa8 is=true) (hN:is.filterMap (fun i=>As[i]?)=N):Step (Qay E) w0 w∧Made M0 E N w0 w:=by
 have hmem:∀A,A∈N→A∈As:=by intro A hA;rw[←hN] at hA;obtain⟨i,_,hi⟩:=YA.1 hA;exact Zq hi
 have hnext:∀k,free (hold M.m As) w k→free (next M0 E N) w k:=by
  rintro k ⟨h1,h2⟩;refine⟨h1,?_⟩;rintro (⟨hm,hne⟩ | ⟨A,hA,hk⟩)
  ·rcases (hpl.m k).1 hm with hm | hm
   ·exact h2 (.inl hm)
   ·exact hne hm
  ·exact h2 (.inr ⟨A,hmem A hA,hk⟩)
 refine⟨by rw[←hpl.b];exact hst.grow,⟨?_,fun A hA k hk=>?_,fun A hA=>Atom.keep _ hnext (fun _ _=>rfl) (fun _ _=>rfl) (hst.own _ (hmem A hA))⟩⟩
 ·rw[←hN];exact Qo5 hst.apart hd
 ·have:=hst.fresh A (hmem A hA) k hk;rw[hpl.b] at this;exact this
def QqJ (E:List Atom) (M0:Blk) (N:Value→List Atom) (w:World):Ending→World→Prop:=fun e w'=>∃x,e=.returned (.bool true)∧Step (Qay E) w w'∧Made M0 E (N x) w w'
def Ql7 (P:Program) (l:Nat) (E:List Atom) (v:Value) (N:Value→List Atom):Prop:=∀(M:Blk) (w:World),(∀k,M k→k<w.heap.size)→Qe5 M E w→QcL E→∃fn tmps assign body,(Instr.yield l #[v]).run P w=.ok (.round l fn tmps assign body) w∧RoundIn Fence.wide 0 P l fn tmps assign body w (QqJ E M N w)
theorem QqK {d:Option Tmp} {ty:TypeId} {pos:String} {af:Array Edge} {g:Option (Nat×Bool)} {f x:Operand} {v:Value} {l:Nat} {E:List Atom} {N:Value→List Atom} {ts:Array TypeId}
  (hf:Fct Γ f (tv (.func (.yield l) #[] #[]))) (hx:Fct Γ x (tv v)) (hY:Ql7 P l E v N):OpJ P ⟨d,.call { callee:=.value f,args:=#[x],argTypes:=ts },ty,pos,af,g⟩ Γ [] E N (fun _=>tv (.bool true)):=by
 intro M w a hM _ hE hap _ he;have hfv:=hf.val (by simp[Op.operands,Call.operands]) he;have hxv:=hx.val (by simp[Op.operands,Call.operands]) he;obtain⟨fn,tmps,as,body,hrun,hR⟩:=hY M w hM hE hap;have hr:(execOp a.eval (⟨d,.call { callee:=.value f,args:=#[x],argTypes:=ts },ty,pos,af,g⟩:Oper)).run P w=.ok (.round l fn tmps as body) w:=by simp only[execOp,resolve,Deferred.ofValue,hfv,map_toArray,Yi,Yz,hxv,Sem.run_bind,Sem.run_pure,Zo,invoke];simpa using hrun
 simp only[Does,hr];refine RoundIn.mono hR ?_;rintro e w' ⟨x,he,h1,h2⟩;exact⟨_,he,x,h1,h2,rfl⟩
theorem Qyd {l:Nat} {fn:FuncId} {tmps:Array Value} {p:Tmp} {assign body:Code} {D:Nat} {E:List Atom} {N:Value→List Atom} {v:Value} {Γ:List (Nat×Ty)} (hn:tmps.size=n) (hp:p<n) (hne:(Γ.all fun q=>q.1 !=p)=true)
  (h:∀M0 M w a,Qbd M0 (Qbo l (Qaq fn tmps #[p] assign body D) Γ::E) M→St M w n ((p,tv v)::Γ) (Qbo l (Qaq fn tmps #[p] assign body D) Γ::E) a w→assign.wpIn (Fence.wide.inRound l) 0 P (Exit.then (fun a₁ w₁=>∃w₂,(Instr.beginRound l).run P w₁=.ok () w₂∧body.wpIn (Fence.wide.inRound l) 0 P (roundPost P l (QqJ (Qbo l (Qaq fn tmps #[p] assign body D) Γ::E) M0 N w)) a₁ w₂) (fun _ _ _=>False)) a w):
  Ql7 P l (Qbo l (Qaq fn tmps #[p] assign body D) Γ::E) v N:=by
 intro M0 w hM hE hap;have hl:=(hE _ (Zk ..)).1;refine⟨fn,tmps.setIfInBounds p v,assign,body,?_,?_⟩
 ·have:=run_yield (P:=P) (args:=#[v]) hl.1 rfl;simpa[Qaq] using this
 ·obtain⟨M,hpl,hst⟩:=QmS (a:={ tmps:=tmps.setIfInBounds p v,defers:=[] }) (n:=n) (Γ:=(p,tv v)::Γ) hM hE hap (by simpa using hn) rfl (fun q hq=>by
   rcases Zm.1 hq with rfl | hq
   ·show (tmps.setIfInBounds p v).getD p undef=v;simp[hn,hp]
   ·have h1:=hl.2 q hq;have h2:q.1≠p:=by have:=Zt.1 hne q hq;simpa using this
    have e:get { tmps:=tmps.setIfInBounds p v,defers:=[] } q.1=tmps.getD q.1 undef:=by simp[get,Array.getElem?_setIfInBounds_ne (Ne.symm h2)]
    rw[e];exact h1)
  exact roundIn_of_wpIn trivial (h M0 M w _ hpl hst)
theorem QmC {l:Nat} {r:Loop} {Γl:List (Nat×Ty)} {body:Code} {F:Fence} {m:Nat} {Q:Exit→Act→World→Prop} (hst:St M w0 n Γ (Qbo l r Γl::As) a w) (hr:r.state=.ready)
  (h:∀w₂,St M w0 n Γ (Qbo l { r with state:=.busy } Γl::As) a w₂→body.wpIn F m P Q a w₂):∃w₂,(Instr.beginRound l).run P w=.ok () w₂∧body.wpIn F m P Q a w₂:=
 ⟨_,run_beginRound (hst.own _ (Zk ..)).1 hr,h _ (hst.putL _ rfl)⟩
theorem Qvq {l:Nat} {fn:FuncId} {tmps:Array Value} {ps:Array Tmp} {assign body:Code} {D:Nat} {Γl:List (Nat×Ty)} {E:List Atom} {N:Value→List Atom} (x:Value) (is:List Nat) (hpl:Qbd M0 E M)
  (hst:St M w0 n Γ (Qbo l { Qaq fn tmps ps assign body D with state:=.busy } Γl::As) a w) (hd:Qa8 is=true)
  (hN:is.filterMap (fun i=>(Qbo l (Qaq fn tmps ps assign body D) Γl::As)[i]?)=N x):roundPost P l (QqJ E M0 N w0) .normal a w:=
 ⟨_,_,run_endRound none (hst.own _ (Zk ..)).1,x,rfl,Ql6 is hpl (hst.putL (Qaq fn tmps ps assign body D) rfl) hd hN⟩
structure Qht (M0:Blk) (E:List Atom) (D:Nat) (M:Fr):Prop where
 b:M.b=Qay E
 m:∀k,M0 k↔M.m k∨Qay E k
 d:∀k,M.m k→¬Qay E k
 e:M.d=[mark D]
theorem Qvr {g:Operand} {ps:Array Tmp} {assign body:Code} {f1:FuncId} {Tc:List Ty} {N:Value→List Atom} {T:Value→Ty} {Q:Exit→Act→World→Prop}
  (hst:St M w0 n Γ As a w) (hg:Fct Γ g (QaO f1 Tc)) (hc:Qj P f1)
  (hfn:∀fn l D,FnOk P f1 (tv (.func (.yield l) #[] #[])::Tc) (Qbo l (Qaq fn a.tmps ps assign body D) Γ::As) (fun x=>Qbo l (Qaq fn a.tmps ps assign body D) Γ::N x) T)
  (hQ:∀x D a' w' M',(∀M0 E,Qbd M0 E M→Qht M0 E D M')→St M' w0 n Γ (objA D defO::N x) a' w'→Q .normal a' w'):(Code.rangeFunc g ps assign body).wp P Q a w:=by
 refine (wpIn_wide (n:=0)).1 (wpIn_rangeFunc fun fn _=>?_);have h1:=hst.lay defO;have h2:St M w0 n Γ (Qbo (w.alloc defO).heap.size (Qaq fn a.tmps ps assign body w.heap.size) Γ::objA w.heap.size defO::As) a ((w.alloc defO).alloc (.loop (Qaq fn a.tmps ps assign body w.heap.size))):=h1.layA (.loop (Qaq fn a.tmps ps assign body w.heap.size)) (fun _=>Iff.rfl) (fun F w' hF hh h=>⟨h,fun p hp=>p.2.keep hF (fun k hk=>hh k hk.1) (h1.slots p hp)⟩);rw[World.size_alloc] at h2;obtain⟨caps,hgv,hcap⟩:=hg _ _ a (fun p hp _=>h2.slots p hp);obtain⟨fn1,hf1,hf2,hf3⟩:=hc;have h3:=h2.perm (Bs:=(Qbo (w.heap.size+1) (Qaq fn a.tmps ps assign body w.heap.size) Γ::As)++[objA w.heap.size defO]) (by refine Perm.cons _ ?_;exact (perm_append_comm (l₁:=[objA w.heap.size defO]) (l₂:=As)));have hW:∃W,(w.alloc defO).alloc (.loop (Qaq fn a.tmps ps assign body w.heap.size))=W:=⟨_,rfl⟩;obtain⟨W,hW⟩:=hW;have hen:=run_enterLoop_outer (P:=P) (w:=w) fn a.tmps ps assign body
 change _=Result.ok _ ((w.alloc defO).alloc (.loop (Qaq fn a.tmps ps assign body w.heap.size))) at hen
 rw[hW] at h2 h3 hen;refine⟨w.heap.size+1,[mark w.heap.size],W,{ target:=.fn (.func f1) caps.toArray,args:=#[.func (.yield (w.heap.size+1)) #[] #[]] },W,f1,#[.func (.yield (w.heap.size+1)) #[] #[]]++caps.toArray,W,hen,?_,fun _ _=>trivial,?_,fun hh=>(by cases hh),?_⟩
 ·simp[resolve,Deferred.ofValue,hgv];rfl
 ·simp only[invoke,callFunc,Sem.run_bind,Sem.run_pure,run_program,Zo,hf1,hf2,hf3,ZU,if_false]
 ·refine callsIn_wide.2 ?_;have hcall:=hfn fn (w.heap.size+1) w.heap.size (hold M.m ((Qbo (w.heap.size+1) (Qaq fn a.tmps ps assign body w.heap.size) Γ::As)++[objA w.heap.size defO])) W (.func (.yield (w.heap.size+1)) #[] #[]::caps) ?_ ?_ ?_ ?_
  ·simp only[push_toArray,append_toArray] at *;refine Calls.mono (by simpa using hcall) ?_;rintro e w' ⟨x,v,rfl,hs,hm,_⟩;have h4:=h3.called hs hm;refine⟨none,_,run_endLoop (h4.own _ (Zk ..)).1 (by simp[Qaq]),?_⟩;have h5:St M w0 n Γ (N x++[objA w.heap.size defO]) a _:=(h4.putL { Qaq fn a.tmps ps assign body w.heap.size with state:=.exhausted } rfl).sub (sublist_cons_self ..);have h6:=h5.perm (Bs:=objA w.heap.size defO::N x) (perm_append_comm (l₁:=N x) (l₂:=[objA w.heap.size defO]));refine hQ x w.heap.size _ _ ⟨M.m,M.b,[mark w.heap.size]++M.d⟩ (fun M0 E hpl=>⟨hpl.b,hpl.m,hpl.d,by simp[hpl.e]⟩) ⟨h6.size,?_,h6.grow,h6.m0,h6.own,h6.fresh,h6.apart,h6.slots⟩;simp[h6.defers]
  ·intro k hk;rcases hk with hk | ⟨A,hA,hk⟩
   ·exact ZR (h3.m0 k hk).1 h3.grow.size
   ·exact (h3.fresh A hA k hk).2
  ·intro A hA;exact⟨h3.own A (mem_append_left _ hA),fun k hk=>.inr ⟨A,mem_append_left _ hA,hk⟩⟩
  ·exact (pairwise_append.1 h3.apart).1
  ·obtain⟨caps',e,hcap'⟩:=hg _ _ a (fun p hp _=>h3.slots p hp);rw[hgv] at e;obtain rfl:caps=caps':=by simpa using e
   exact .cons rfl hcap'
theorem Qt4 {S:Type} {A:S→List Atom} {s0 s1:S} {Y:S→Int→Option S} {g:Operand} {p:Tmp} {assign body:Code} {f1:FuncId} {Tc:List Ty} {T:Value→Ty} {Q:Exit→Act→World→Prop}
  (hst:St M w0 n Γ (A s0) a w) (hg:Fct Γ g (QaO f1 Tc)) (hc:Qj P f1)
  (hfn:∀l LR,(∀s i r,Y s i=some r→Ql7 P l (LR::A s) (.int .i64 i) (fun _=>LR::A r))→FnOk P f1 (tv (.func (.yield l) #[] #[])::Tc) (LR::A s0) (fun _=>LR::A s1) T)
  (hp:p<n) (hne:(Γ.all fun q=>q.1 !=p)=true)
  (hbody:∀s i r,Y s i=some r→∀(M0:Blk) (M:Fr) (w0:World) (a:Act) (l:Nat) (LR LB:Atom) (K:Act→World→Prop) (Q:Exit→Act→World→Prop),Qbd M0 (LR::A s) M→St M w0 n ((p,tv (.int .i64 i))::Γ) (LR::A s) a w0→
   (∀Γ' As a w,St M w0 n Γ' (LR::As) a w→(∀w,St M w0 n Γ' (LB::As) a w→body.wpIn (Fence.wide.inRound l) 0 P Q a w)→K a w)→
   (∀Γ' is As a w,St M w0 n Γ' (LB::As) a w→Qa8 is=true→is.filterMap (fun i=>(LR::As)[i]?)=LR::A r→Q .normal a w)→
   assign.wpIn (Fence.wide.inRound l) 0 P (Exit.then K (fun _ _ _=>False)) a w0)
  (hQ:∀D a' w' M',(∀M0 E,Qbd M0 E M→Qht M0 E D M')→St M' w0 n Γ (objA D defO::A s1) a' w'→Q .normal a' w'):(Code.rangeFunc g #[p] assign body).wp P Q a w:=
 Qvr (N:=fun _=>A s1) hst hg hc (fun fn l D=>hfn l _ (fun s i r hY=>Qyd hst.size hp hne (fun M0 M w a hpl hst'=>hbody s i r hY M0 M w a l _ _ _ _ hpl hst' (fun Γ' As a w1 h1 h2=>QmC h1 rfl h2) (fun Γ' is As a w1 h1 hd hN=>Qvq undef is hpl h1 hd hN)))) (fun _ D a' w' M' h1 h2=>hQ D a' w' M' h1 h2)
def RetM (P:Program) (fn:Func) (M:Blk) (E:List Atom) (w0:World) (N:Value→List Atom) (T:Value→Ty):Exit→Act→World→Prop:=bodyPostM Fence.wide 0 P fn (fun e w'=>∃x v,e=.returned v∧Step (Qay E) w0 w'∧Made M E (N x) w0 w'∧(T x).ok (free (next M E (N x)) w') w' v)
theorem FnOk.enterM {f:FuncId} {fn:Func} {c:Code} {Ts:List Ty} {E:List Atom} {N:Value→List Atom} {T:Value→Ty} (hf:P.funcs[f]?=some fn) (hb:fn.body=some c) (hn:fn.ntmps=n) (hl:Ts.length≤n)
  (h:∀M0 M w a,Qbd M0 E M→St M w n (ents Ts) E a w→c.wp P (RetM P fn M0 E w N T) a w):FnOk P f Ts E N T:=by
 intro M0 w vs hM hE hap hc;have hvl:=hc.1;obtain⟨M,hpl,hst⟩:=QmS (Γ:=ents Ts) (n:=n) (a:={ tmps:=vs.toArray++Array.replicate (fn.ntmps - vs.toArray.size) undef,defers:=[] }) hM hE hap (by simp[hn];omega) rfl (by
  intro p hp;obtain⟨⟨T',i⟩,hmem,rfl⟩:=ZC.1 hp;obtain⟨j,hj⟩:=Yd.1 hmem;rw[getElem?_zipIdx] at hj
  cases hT:Ts[j]? with
  | none=>simp[hT] at hj
  | some T''=>
   simp only[hT,ZY,ZX,Yx] at hj;obtain⟨rfl,rfl⟩:=hj;have hlt:j<vs.length:=by rw[hvl];exact (Zf.1 hT).1
   have hget:get { tmps:=vs.toArray++Array.replicate (fn.ntmps - vs.toArray.size) undef,defers:=[] } (0+j)=vs[j]:=by unfold get;simp[Array.getElem?_append,hlt]
   show T''.ok _ _ (get _ (0+j));rw[hget];exact hc.2 j T'' vs[j] hT (Zb hlt))
 exact callsIn_wide.1 (callsIn_of_wp_marks (n:=0) hf hb trivial ((wpIn_wide (n:=0)).2 (h M0 M w _ hpl hst)) rfl)
theorem QiM {fn:Func} {E:List Atom} {N:Value→List Atom} {T:Value→Ty} (h:Ret P fn M0 E w0 N T .ret a w):RetM P fn M0 E w0 N T .ret a w:=by obtain⟨hd,v,hv,hR⟩:=h;show LeavesInM _ _ _ _ _ _ a.defers _ _;rw[hd];exact⟨v,hv,hR⟩
theorem Qpe {fn:Func} {rs:List ResultVar} {Ts:List Ty} {E:List Atom} {N:Value→List Atom} {T:Value→Ty} {D:Nat} (x:Value) (is:List Nat) (hpl:Qht M0 E D M) (hst:St M w0 n Γ (objA D defO::As) a w) (hrs:fn.results=rs.toArray)
  (h:Qdu P Γ (objA D (.deferred none)::As) rs Ts) (hd:Qa8 is=true) (hN:is.filterMap (fun i=>(objA D (.deferred none)::As)[i]?)=N x) (hT:T x=Qid Ts):RetM P fn M0 E w0 N T .normal a w:=by
 have h1:=hst.putO (.deferred none);have hd0:=h1.defers;have h2:St ⟨M.m,M.b,[]⟩ w0 n Γ (objA D (.deferred none)::As) { a with defers:=[] } (w.putObj D (.deferred none)):=⟨h1.size,rfl,h1.grow,h1.m0,h1.own,h1.fresh,h1.apart,h1.slots⟩;obtain⟨_,v,hv,hR⟩:=Qea (P:=P) x is (⟨hpl.b,hpl.m,hpl.d,rfl⟩:Qbd M0 E ⟨M.m,M.b,[]⟩) h2 hrs h hd hN hT;show LeavesInM _ _ _ _ _ _ a.defers _ _;rw[hd0,hpl.e];exact⟨by simp,.inl ⟨D,_,rfl,run_takeDeferred (hst.own _ (Zk ..)),v,hv,hR⟩⟩
def QsR (ops:List Oper):Bool:=ops.all fun o=>match o.op with | .defer _=>false | _=>true
theorem QnA {ops:List Oper} {l:Nat} {id:Nat} {draw:Bool} {Q:Exit→Act→World→Prop} {is:List Info} (hm:P.follows .mixedOrders=true) (hd:QsR ops=true) (Ns:List Ver)
  (hst:St M w0 n Γ As a w) (hrun:∀new,Run P ops (verA As Ns) new 0 Γ ops is) (hchk:chk ops is ((verA As Ns).map (·.ds)) (Γ.map (·.1)) As.length (verA As Ns).length n=true)
  (hQ:∀new a' w',St M w0 n (outG ops is Γ new) (Qd9 (verA As Ns) is new) a' w'→Q .normal a' w'):(Code.region id ops.toArray draw).wpIn (Fence.wide.inRound l) 0 P Q a w:=
 QAj hm (fun o ho c e=>by have:=Zt.1 hd o ho;rw[e] at this;cases this) Ns hst hrun hchk hQ
theorem box_q1 {Ts:List Ty} {q:Value} {F:Blk} {w:World} (h:(box Ts q).ok F w):q.oneCell'=true:=by obtain⟨b,_,_,hq,_⟩:=h;rw[hq];rfl
section
variable {d:Option Tmp} {ty:TypeId} {pos:String} {af:Array Edge} {g:Option (Nat×Bool)} {x:Operand} {t:TypeId} {bytes:Nat} {z:Value}
theorem QsS {q:Value} {Ts:List Ty} (hx:Fct Γ x (tv q)):OpJ P ⟨d,.box t x,ty,pos,af,g⟩ Γ [box Ts q] [] (fun _=>[]) (fun _=>tptr (rVal.cs q)):=.say (A:=box Ts q) (by simp) (fun _ _ h=>box_q1 h) fun hq=>(QgS (R:=rVal) (u:=q) (hx.weak fun _ _ _ h=>⟨h,hq⟩)).useMore (fun A hA=>by cases hA)
theorem Qbj {q:Value} (hz:TOk P t rVal bytes z) (hp:Fct Γ x (tptr (rVal.cs q))):OpJ P ⟨d,.load t x,ty,pos,af,g⟩ Γ [] [] (fun _=>[]) (fun _=>tv q):=QjD (QU (R:=rVal) (u:=q) hz hp) (fun _ _ _ _ h=>h.1)
end
end
section
variable {s:Nat} {w b:Bool} {Γ:List (Nat×Ty)} {e0 e1 e2 e3 e4 e5 e6 e7 e8 e9 e10 e11:Nat×Ty}
theorem bq0:Grd ((s,tv (.bool b))::Γ) s w (b==w):=.b 0 rfl
theorem bq1:Grd (e0::(s,tv (.bool b))::Γ) s w (b==w):=.b 1 rfl
theorem bq2:Grd (e0::e1::(s,tv (.bool b))::Γ) s w (b==w):=.b 2 rfl
theorem bq3:Grd (e0::e1::e2::(s,tv (.bool b))::Γ) s w (b==w):=.b 3 rfl
theorem bq4:Grd (e0::e1::e2::e3::(s,tv (.bool b))::Γ) s w (b==w):=.b 4 rfl
theorem bq5:Grd (e0::e1::e2::e3::e4::(s,tv (.bool b))::Γ) s w (b==w):=.b 5 rfl
theorem bq6:Grd (e0::e1::e2::e3::e4::e5::(s,tv (.bool b))::Γ) s w (b==w):=.b 6 rfl
theorem bq7:Grd (e0::e1::e2::e3::e4::e5::e6::(s,tv (.bool b))::Γ) s w (b==w):=.b 7 rfl
theorem bq8:Grd (e0::e1::e2::e3::e4::e5::e6::e7::(s,tv (.bool b))::Γ) s w (b==w):=.b 8 rfl
theorem bq9:Grd (e0::e1::e2::e3::e4::e5::e6::e7::e8::(s,tv (.bool b))::Γ) s w (b==w):=.b 9 rfl
end
def bs2 {α β γ:Type} {x:Option α} {f:α→Option β} {g:α→β→Option γ} {r:γ} (h:(x.bind fun a=>(f a).bind (g a))=some r):∃a,x=some a∧∃b,f a=some b∧g a b=some r:=by obtain⟨a,h1,h2⟩:=bind_some h;obtain⟨b,h3,h4⟩:=bind_some h2;exact⟨a,h1,b,h3,h4⟩
def bs3 {α β γ δ:Type} {x:Option α} {f:α→Option β} {g:α→β→Option γ} {k:α→β→γ→Option δ} {r:δ} (h:(x.bind fun a=>(f a).bind fun b=>(g a b).bind (k a b))=some r):∃a,x=some a∧∃b,f a=some b∧∃c,g a b=some c∧k a b c=some r:=by obtain⟨a,h1,h2⟩:=bind_some h;obtain⟨b,h3,h4⟩:=bind_some h2;obtain⟨c,h5,h6⟩:=bind_some h4;exact⟨a,h1,b,h3,c,h5,h6⟩
def bs4 {α β γ δ ε:Type} {x:Option α} {f:α→Option β} {g:α→β→Option γ} {k:α→β→γ→Option δ} {l:α→β→γ→δ→Option ε} {r:ε} (h:(x.bind fun a=>(f a).bind fun b=>(g a b).bind fun c=>(k a b c).bind (l a b c))=some r):∃a,x=some a∧∃b,f a=some b∧∃c,g a b=some c∧∃d,k a b c=some d∧l a b c d=some r:=by obtain⟨a,h1,h2⟩:=bind_some h;obtain⟨b,h3,c,h5,d,h7,h8⟩:=bs3 h2;exact⟨a,h1,b,h3,c,h5,d,h7,h8⟩
def bs {α β:Type} {x:Option α} {f:α→Option β} {r:β} (h:x.bind f=some r):∃a,x=some a∧f a=some r:=bind_some h
section
variable {P:Program} {M:Fr} {M0:Blk} {w0 w:World} {n:Nat} {Γ:List (Nat×Ty)} {As:List Atom} {a:Act}
theorem wi {s:Nat} {b:Bool} {α:Type} {x y:Option α} {r:α} {c1 c2:Code} {Q:Exit→Act→World→Prop} (hst:St M w0 n ((s,tv (.bool b))::Γ) As a w) (h:(if b=true then x else y)=some r) (ht:b=true→x=some r→c1.wp P Q a w) (hf:b=false→y=some r→c2.wp P Q a w):(Code.cond (.tmp s) c1 c2).wp P Q a w:=wt hst (fun hb=>ht hb (QcM hb h)) (fun hb=>hf hb (QcN hb h))
theorem fe {f:FuncId} {fn:Func} {c:Code} {Ts:List Ty} {E:List Atom} {N:Value→List Atom} {T:Value→Ty} (hf:P.funcs[f]?=some fn) (hn:fn.ntmps=n) (h:∀M0 M w a,Qbd M0 E M→St M w n (ents Ts) E a w→c.wp P (Ret P fn M0 E w N T) a w) (hb:fn.body=some c:=by rfl) (hl:Ts.length≤n:=by exact Nat.le_of_ble_eq_true rfl):FnOk P f Ts E N T:=FnOk.enter hf hb hn hl h
theorem rt {fn:Func} {rs:List ResultVar} {Ts:List Ty} {E:List Atom} {N:Value→List Atom} {T:Value→Ty} (x:Value) (is:List Nat) (hpl:Qbd M0 E M) (hst:St M w0 n Γ As a w) (h:Qdu P Γ As rs Ts) (hrs:fn.results=rs.toArray:=by rfl) (hd:Qa8 is=true:=by rfl)
  (hN:is.filterMap (fun i=>As[i]?)=N x:=by rfl) (hT:T x=Qid Ts:=by rfl):Ret P fn M0 E w0 N T .ret a w:=Qea x is hpl hst hrs h hd hN hT
theorem r0 {α:Type} {e r:α} {P:Program} {Q:Exit→Act→World→Prop} {a:Act} {w:World} (h:some e=some r) (k:e=r→Q .ret a w):Code.ret.wp P Q a w:=wp_ret (k (Zs h))
theorem r1 {fn:Func} {rs:List ResultVar} {Ts:List Ty} {E:List Atom} {N:Value→List Atom} {T:Value→Ty} (hpl:Qbd M0 E M) (hst:St M w0 n Γ As a w) (h:Qdu P Γ As rs Ts) (hrs:fn.results=rs.toArray:=by rfl)
  (hN:([]:List Atom)=N undef:=by rfl) (hT:T undef=Qid Ts:=by rfl):Ret P fn M0 E w0 N T .ret a w:=Qea undef [] hpl hst hrs h rfl hN hT
end
section
open Go.MapKept
section
variable {α:Type}
def mget:List (Int×α)→Int→Option α
 | [],_=>none
 | p::l,i=>if i=p.1 then some p.2 else mget l i
abbrev Mp (α:Type):=Option (List (Int×α))
structure Qkj (R:Rep α) (F:Blk) (w:World) (es:Array MapEntry) (l:List (Int×α)):Prop where
 all:∀e∈es.toList,∃i x,e.key=.int .i64 i∧mget l i=some x∧(R.ty x).ok F w e.val
 has:∀i x,mget l i=some x→∃e∈es.toList,e.key=.int .i64 i
 one:∀(n n':Nat) (e e':MapEntry),es.toList[n]?=some e→es.toList[n']?=some e'→e.key=e'.key→n=n'
theorem Qkj.keep {R:Rep α} {F F':Blk} {w w':World} {es:Array MapEntry} {l:List (Int×α)} (hF:∀k,F k→F' k) (hh:∀k,F k→w'.heap[k]?=w.heap[k]?) (h:Qkj R F w es l):Qkj R F' w' es l:=⟨fun e he=>let⟨i,x,h1,h2,h3⟩:=h.all e he;⟨i,x,h1,h2,(R.ty x).keep hF hh h3⟩,h.has,h.one⟩
def MapAt (R:Rep α) (F:Blk) (w:World) (m:Mp α) (v:Value):Prop:=match m with | none=>v=.map none | some l=>∃b es c,v=.map (some b)∧w.heap[b]?=some (.map es c)∧Qkj R F w es l
def omap (R:Rep α) (m:Mp α) (v:Value):Atom:=
 ⟨fun k=>v=.map (some k),fun F w=>MapAt R F w m v,
  by
   intro F F' w w' hF hh hf h
   cases m with
   | none=>exact h
   | some l=>obtain⟨b,es,c,h1,h2,h3⟩:=h;exact⟨b,es,c,h1,by rw[hf b h1];exact h2,h3.keep hF hh⟩⟩
def tmap (R:Rep α) (m:Mp α):Ty:=
 ⟨fun F w v=>match m with | none=>v=.map none | some l=>∃b es c,v=.map (some b)∧F b∧w.heap[b]?=some (.map es c)∧Qkj R F w es l,
  by
   intro F F' w w' v hF hh h
   cases m with
   | none=>exact h
   | some l=>obtain⟨b,es,c,h1,h2,h3,h4⟩:=h;exact⟨b,es,c,h1,hF b h2,by rw[hh b h2];exact h3,h4.keep hF hh⟩⟩
end
section
variable {Γ:List (Nat×Ty)} {P:Program} {d:Option Tmp} {ty:TypeId} {pos:String} {af:Array Edge} {g:Option (Nat×Bool)} {x y q:Operand} {t kt et:TypeId} {α:Type} {R:Rep α} {bytes:Nat} {z:Value} {m:Mp α} {v:Value} {i:Int} {u:α}
theorem QAk (i:Int):IsKey (.int .i64) (.int .i64 i):=rfl
theorem Qkj.keys {F:Blk} {w:World} {es:Array MapEntry} {l:List (Int×α)} (h:Qkj R F w es l):∀e∈es.toList,IsKey (.int .i64) e.key:=fun e he=>by obtain⟨i,x,h1,_⟩:=h.all e he;rw[h1];exact QAk i
theorem Qvs {F F':Blk} {w:World} (h:(omap R m v).ok F w) (hF:∀k,F k→F' k) (hfp:∀k,(omap R m v).fp k→F' k):(tmap R m).ok F' w v:=by
 cases m with
 | none=>exact h
 | some l=>obtain⟨b,es,c,h1,h2,h3⟩:=h;exact⟨b,es,c,h1,hfp b h1,h2,h3.keep hF (fun _ _=>rfl)⟩
theorem Qa0.map {U:List Atom} (h:Fct Γ x (tv v)) (hU:omap R m v∈U):Qa0 Γ U x (tmap R m):=by intro F F' w a hF hA h0;have hv:a.eval x=v:=h F w a h0;obtain⟨hok,hfp⟩:=hA _ hU;rw[hv];exact Qvs hok hF hfp
end
section
variable {M:Fr} {w0 w:World} {n:Nat} {Γ:List (Nat×Ty)} {As:List Atom} {a:Act} {α:Type} {R:Rep α} {m:Mp α} {v:Value}
end
end
section
variable {α:Type} {R:Rep α} {e:TypeId}
end
section
variable {Γ:List (Nat×Ty)} {P:Program} {d:Option Tmp} {ty:TypeId} {pos:String} {af:Array Edge} {g:Option (Nat×Bool)} {x y:Operand} {t e e':TypeId} {α:Type} {R:Rep α} {bytes:Nat} {z:Value} {xs ys:List α} {v:Value} {k:IntKind} {i:Int} {u:α}
end
section
variable {Γ:List (Nat×Ty)} {x:Operand} {e:TypeId} {α:Type} {R:Rep α} {xs:List α} {v q:Value} {Ts:List Ty}
end
section
variable {M:Fr} {w0 w:World} {n:Nat} {Γ:List (Nat×Ty)} {As:List Atom} {a:Act} {α:Type} {R:Rep α} {e:TypeId} {xs:List α} {v:Value}
end
section
variable {Γ:List (Nat×Ty)} {P:Program} {d:Option Tmp} {ty:TypeId} {pos:String} {af:Array Edge} {g:Option (Nat×Bool)} {x y:Operand} {t:TypeId} {bytes:Nat} {z:Value}
theorem zokPf:∀F w,(rVal.ty .nilFunc).ok F w .nilFunc:=fun _ _=>⟨rfl,rfl⟩
theorem zokP:∀F w,(rVal.ty (.pointer none)).ok F w (.pointer none):=fun _ _=>⟨rfl,rfl⟩
end
section
variable {Γ:List (Nat×Ty)} {P:Program} {d:Option Tmp} {ty:TypeId} {pos:String} {af:Array Edge} {g:Option (Nat×Bool)} {x:Operand} {t kt et:TypeId} {α:Type} {R:Rep α} {m:Mp α} {v:Value}
end
section
variable {M:Fr} {w0 w:World} {n:Nat} {Γ:List (Nat×Ty)} {As:List Atom} {a:Act}
end
def QfB (As:List Atom):Atom:=⟨fps As,fun F w=>(∀A∈As,A.ok F w)∧QcL As,fun hF hh hf h=>⟨fun A hA=>A.keep hF hh (fun k hk=>hf k ⟨A,hA,hk⟩) (h.1 A hA),h.2⟩⟩
def Qhu {E:List Atom}:Qay [QfB E]=Qay E:=by
 funext k
 exact propext ⟨fun⟨A,hA,hk⟩=>by obtain rfl:=Ze.1 hA;exact hk,fun h=>⟨_,Ze.2 rfl,h⟩⟩
def Qli {M:Blk} {E N:List Atom}:next M [QfB E] [QfB N]=next M E N:=by unfold next;rw[Qhu,Qhu]
def Qt5 {M:Blk} {E:List Atom} {w:World} (h:Qe5 M E w) (hap:QcL E):Qe5 M [QfB E] w:=fun A hA=>by obtain rfl:=Ze.1 hA;exact⟨⟨fun B hB=>(h B hB).1,hap⟩,fun k ⟨B,hB,hk⟩=>(h B hB).2 k hk⟩
def QpT {M:Blk} {E:List Atom} {w:World} (h:Qe5 M [QfB E] w):Qe5 M E w∧QcL E:=
 have:=h _ (Ze.2 rfl)
 ⟨fun A hA=>⟨this.1.1 A hA,fun k hk=>this.2 k ⟨A,hA,hk⟩⟩,this.1.2⟩
def Qvt {M:Blk} {E N:List Atom} {w w':World} (h:Made M E N w w'):Made M [QfB E] [QfB N] w w':=
 ⟨pairwise_singleton _ _,fun A hA k hk=>by
  obtain rfl:=Ze.1 hA;obtain⟨B,hB,hk⟩:=hk;rw[Qhu];exact h.place B hB k hk,fun A hA=>by
  obtain rfl:=Ze.1 hA;rw[Qli];exact⟨h.ok,h.apart⟩⟩
def QqL {M:Blk} {E N:List Atom} {w w':World} (h:Made M [QfB E] [QfB N] w w'):Made M E N w w':=by have h1:=h.ok _ (Ze.2 rfl);rw[Qli] at h1;exact⟨h1.2,fun A hA k hk=>by have:=h.place _ (Ze.2 rfl) k ⟨A,hA,hk⟩;rwa [Qhu] at this,h1.1⟩
section
variable {P:Program} {M:Fr} {M0:Blk} {w0:World} {n:Nat} {Γ:List (Nat×Ty)} {As:List Atom} {a:Act} {w:World}
theorem FnOk.unjoin {f:FuncId} {Ts:List Ty} {E:List Atom} {N:Value→List Atom} {T:Value→Ty} (h:FnOk P f Ts [QfB E] (fun x=>[QfB (N x)]) T):FnOk P f Ts E N T:=fun M w vs hM hE hap hc=>Calls.mono (h M w vs hM (Qt5 hE hap) (pairwise_singleton _ _) hc) (fun e w' ⟨x,v,he,hs,hm,ht⟩=>⟨x,v,he,by rwa [Qhu] at hs,QqL hm,by rwa [Qli] at ht⟩)
def RB (E:List Atom) (M0:Blk) (b:Bool) (N:Value→List Atom) (w:World):Ending→World→Prop:=fun e w'=>∃x,e=.returned (.bool b)∧Step (Qay E) w w'∧Made M0 E (N x) w w'
def YOk (P:Program) (l:Nat) (E:List Atom) (v:Value) (b:Bool) (N:Value→List Atom):Prop:=∀(M:Blk) (w:World),(∀k,M k→k<w.heap.size)→Qe5 M E w→QcL E→∃fn tmps assign body,(Instr.yield l #[v]).run P w=.ok (.round l fn tmps assign body) w∧RoundIn Fence.wide 0 P l fn tmps assign body w (RB E M b N w)
theorem YOk.join {l:Nat} {E:List Atom} {v:Value} {b:Bool} {N:Value→List Atom} (h:YOk P l E v b N):YOk P l [QfB E] v b (fun x=>[QfB (N x)]):=fun M w hM hE _=>by obtain⟨h1,h2⟩:=QpT hE;obtain⟨fn,tmps,as,body,hr,hR⟩:=h M w hM h1 h2;exact⟨fn,tmps,as,body,hr,RoundIn.mono hR (fun e w' ⟨x,he,hs,hm⟩=>⟨x,he,by rw[Qhu];exact hs,Qvt hm⟩)⟩
theorem Qvu {d:Option Tmp} {ty:TypeId} {pos:String} {af:Array Edge} {g:Option (Nat×Bool)} {f x:Operand} {v:Value} {b:Bool} {l:Nat} {E:List Atom} {N:Value→List Atom} {ts:Array TypeId}
  (hf:Fct Γ f (tv (.func (.yield l) #[] #[]))) (hx:Fct Γ x (tv v)) (hY:YOk P l E v b N):OpJ P ⟨d,.call { callee:=.value f,args:=#[x],argTypes:=ts },ty,pos,af,g⟩ Γ [] E N (fun _=>tv (.bool b)):=by
 intro M w a hM _ hE hap _ he;have hfv:=hf.val (by simp[Op.operands,Call.operands]) he;have hxv:=hx.val (by simp[Op.operands,Call.operands]) he;obtain⟨fn,tmps,as,body,hrun,hR⟩:=hY M w hM hE hap;have hr:(execOp a.eval (⟨d,.call { callee:=.value f,args:=#[x],argTypes:=ts },ty,pos,af,g⟩:Oper)).run P w=.ok (.round l fn tmps as body) w:=by simp only[execOp,resolve,Deferred.ofValue,hfv,map_toArray,Yi,Yz,hxv,Sem.run_bind,Sem.run_pure,Zo,invoke];simpa using hrun
 simp only[Does,hr];refine RoundIn.mono hR ?_;rintro e w' ⟨x,he,h1,h2⟩;exact⟨_,he,x,h1,h2,rfl⟩
theorem yieldG {l:Nat} {fn:FuncId} {tmps:Array Value} {p:Tmp} {assign body:Code} {D:Nat} {E:List Atom} {b:Bool} {N:Value→List Atom} {v:Value} {Γ:List (Nat×Ty)} (hn:tmps.size=n) (hp:p<n) (hne:(Γ.all fun q=>q.1 !=p)=true)
  (h:∀M0 M w a,Qbd M0 (Qbo l (Qaq fn tmps #[p] assign body D) Γ::E) M→St M w n ((p,tv v)::Γ) (Qbo l (Qaq fn tmps #[p] assign body D) Γ::E) a w→assign.wpIn (Fence.wide.inRound l) 0 P (Exit.then (fun a₁ w₁=>∃w₂,(Instr.beginRound l).run P w₁=.ok () w₂∧body.wpIn (Fence.wide.inRound l) 0 P (roundPost P l (RB (Qbo l (Qaq fn tmps #[p] assign body D) Γ::E) M0 b N w)) a₁ w₂) (fun _ _ _=>False)) a w):
  YOk P l (Qbo l (Qaq fn tmps #[p] assign body D) Γ::E) v b N:=by
 intro M0 w hM hE hap;have hl:=(hE _ (Zk ..)).1;refine⟨fn,tmps.setIfInBounds p v,assign,body,?_,?_⟩
 ·have:=run_yield (P:=P) (args:=#[v]) hl.1 rfl;simpa[Qaq] using this
 ·obtain⟨M,hpl,hst⟩:=QmS (a:={ tmps:=tmps.setIfInBounds p v,defers:=[] }) (n:=n) (Γ:=(p,tv v)::Γ) hM hE hap (by simpa using hn) rfl (fun q hq=>by
   rcases Zm.1 hq with rfl | hq
   ·show (tmps.setIfInBounds p v).getD p undef=v;simp[hn,hp]
   ·have h1:=hl.2 q hq;have h2:q.1≠p:=by have:=Zt.1 hne q hq;simpa using this
    have e:get { tmps:=tmps.setIfInBounds p v,defers:=[] } q.1=tmps.getD q.1 undef:=by simp[get,Array.getElem?_setIfInBounds_ne (Ne.symm h2)]
    rw[e];exact h1)
  exact roundIn_of_wpIn trivial (h M0 M w _ hpl hst)
inductive Ql8:Code→Exit→Prop where
 | ret:Ql8 .ret .ret
 | exit (id:Nat):Ql8 (.exit id) (.exit id)
theorem Qt6 {l:Nat} {fn:FuncId} {tmps:Array Value} {ps:Array Tmp} {assign body:Code} {D:Nat} {Γl:List (Nat×Ty)} {E:List Atom} {N:Value→List Atom} (x:Value) (is:List Nat) (hpl:Qbd M0 E M)
  (hst:St M w0 n Γ (Qbo l { Qaq fn tmps ps assign body D with state:=.busy } Γl::As) a w) (hd:Qa8 is=true)
  (hN:is.filterMap (fun i=>(Qbo l (Qaq fn tmps ps assign body D) Γl::As)[i]?)=N x):roundPost P l (RB E M0 true N w0) .normal a w:=
 ⟨_,_,run_endRound none (hst.own _ (Zk ..)).1,x,rfl,Ql6 is hpl (hst.putL (Qaq fn tmps ps assign body D) rfl) hd hN⟩
theorem Qsj {l:Nat} {fn:FuncId} {tmps:Array Value} {ps:Array Tmp} {assign body:Code} {D:Nat} {Γl:List (Nat×Ty)} {E:List Atom} {N:Value→List Atom} {jump:Code} {jx:Exit} (hj:Ql8 jump jx) (x:Value) (is:List Nat) (hpl:Qbd M0 E M)
  (hst:St M w0 n Γ (Qbo l { Qaq fn tmps ps assign body D with state:=.busy } Γl::As) a w) (hd:Qa8 is=true)
  (hN:is.filterMap (fun i=>(Qbo l { Qaq fn tmps ps assign body D with state:=.done,pending:=some jump } Γl::As)[i]?)=N x):roundPost P l (RB E M0 false N w0) jx a w:=by
 cases hj with
 | ret=>exact⟨_,_,run_endRound (some .ret) (hst.own _ (Zk ..)).1,x,rfl,Ql6 is hpl (hst.putL { Qaq fn tmps ps assign body D with state:=.done,pending:=some .ret } rfl) hd hN⟩
 | exit id=>exact⟨_,_,run_endRound (some (.exit id)) (hst.own _ (Zk ..)).1,x,rfl,Ql6 is hpl (hst.putL { Qaq fn tmps ps assign body D with state:=.done,pending:=some (.exit id) } rfl) hd hN⟩
def QqM (P:Program) (n:Nat) (Γ:List (Nat×Ty)) {S:Type} (A:S→Value→List Atom) (k:IntKind) (p:Tmp) (assign body:Code) (jx:Exit) (Y:S→Int→Option (S⊕S)):Prop:=
 ∀s g i r,Y s i=some r→∀(M0:Blk) (M:Fr) (w0:World) (a:Act) (l:Nat) (LR LB:Atom) (K:Act→World→Prop) (Q:Exit→Act→World→Prop),(∀F w,LB.ok F w→∃r,w.heap[l]?=some (.loop r))→
  Qbd M0 (LR::A s g) M→St M w0 n ((p,tv (.int k i))::Γ) (LR::A s g) a w0→
  (∀Γ' As a w,St M w0 n Γ' (LR::As) a w→(∀w,St M w0 n Γ' (LB::As) a w→body.wpIn (Fence.wide.inRound l) 0 P Q a w)→K a w)→
  (∀s' x Γ' is As a w,r=.inl s'→St M w0 n Γ' (LB::As) a w→Qa8 is=true→(∀L,is.filterMap (fun i=>(L::As)[i]?)=L::A s' x)→Q .normal a w)→
  (∀s' x Γ' is As a w,r=.inr s'→St M w0 n Γ' (LB::As) a w→Qa8 is=true→(∀L,is.filterMap (fun i=>(L::As)[i]?)=L::A s' x)→Q jx a w)→
  assign.wpIn (Fence.wide.inRound l) 0 P (Exit.then K (fun _ _ _=>False)) a w0
def Qqc (P:Program) (f1:FuncId) (Tc:List Ty) (k:IntKind) {S:Type} (Y:S→Int→Option (S⊕S)) (s0:S) (t:S⊕S):Prop:=∀(l:Nat) (W:S⊕S→Value→Atom) (g0:Value),(∀s g i r,Y s i=some r→YOk P l [W (.inl s) g] (.int k i) r.isLeft (fun x=>[W r x]))→∃T,FnOk P f1 (tv (.func (.yield l) #[] #[])::Tc) [W (.inl s0) g0] (fun x=>[W t x]) T
section
variable {S:Type} {A:S→Value→List Atom} {k:IntKind} {p:Tmp} {assign body:Code} {jump:Code} {jx:Exit} {Y:S→Int→Option (S⊕S)} {s0:S} {g0:Value} {t:S⊕S} {f1:FuncId} {Tc:List Ty} {g:Operand}
def recW (A:S→Value→List Atom) (l:Nat) (r:Loop) (jump:Code) (Γ:List (Nat×Ty)):S⊕S→Value→List Atom
 | .inl s,x=>Qbo l r Γ::A s x
 | .inr s,x=>Qbo l { r with state:=.done,pending:=some jump } Γ::A s x
theorem QnB {fn:FuncId} {D l:Nat} {ex:List Atom} {tm:Array Value} (htm:a.tmps=tm) (hj:Ql8 jump jx) (hst:St M w0 n Γ ((Qbo l (Qaq fn tm #[p] assign body D) Γ::A s0 g0)++ex) a w)
  (hg:Fct Γ g (QaO f1 Tc)) (hseq:Qqc P f1 Tc k Y s0 t) (hp:p<n) (hne:(Γ.all fun q=>q.1 !=p)=true) (hbody:QqM P n Γ A k p assign body jx Y):
  ∃caps:List Value,a.eval g=.func (.func f1) #[] caps.toArray∧CallsIn Fence.wide 0 P f1 (#[.func (.yield l) #[] #[]]++caps.toArray) w (fun e w'=>∃v x,e=.returned v∧St M w0 n Γ (recW A l (Qaq fn tm #[p] assign body D) jump Γ t x++ex) a w'):=by
 obtain⟨caps,hgv,hcap⟩:=hg _ _ a (fun p hp _=>hst.slots p hp);refine⟨caps,hgv,callsIn_wide.2 ?_⟩;obtain⟨T,hcall⟩:=hseq l (fun r x=>QfB (recW A l (Qaq fn tm #[p] assign body D) jump Γ r x)) g0 (fun s g i r hY=>by
  refine (yieldG (Γ:=Γ) (b:=r.isLeft) (N:=fun x=>recW A l (Qaq fn tm #[p] assign body D) jump Γ r x) (htm▸hst.size) hp hne (fun M0 M w a hpl hst'=>?_)).join;refine hbody s g i r hY M0 M w a l _ (Qbo l { Qaq fn tm #[p] assign body D with state:=.busy } Γ) _ _ (fun F w h=>⟨_,h.1⟩) hpl hst' (fun Γ' As a w1 h1 h2=>QmC h1 rfl h2) ?_ ?_
  ·rintro s' x Γ' is As a w1 rfl h1 hd hN;exact Qt6 x is hpl h1 hd (hN _)
  ·rintro s' x Γ' is As a w1 rfl h1 hd hN;exact Qsj hj x is hpl h1 hd (hN _))
 have hcall:=(FnOk.unjoin hcall) (hold M.m ((Qbo l (Qaq fn tm #[p] assign body D) Γ::A s0 g0)++ex)) w (.func (.yield l) #[] #[]::caps) ?_ ?_ ?_ ?_
 ·refine Calls.mono (by simpa using hcall) ?_;rintro e w' ⟨x,v,rfl,hs,hm,_⟩;exact⟨v,x,rfl,hst.called hs hm⟩
 ·intro k hk;rcases hk with hk | ⟨A,hA,hk⟩
  ·exact ZR (hst.m0 k hk).1 hst.grow.size
  ·exact (hst.fresh A hA k hk).2
 ·intro A hA;exact⟨hst.own A (mem_append_left _ hA),fun k hk=>.inr ⟨A,mem_append_left _ hA,hk⟩⟩
 ·exact (pairwise_append.1 hst.apart).1
 ·exact .cons rfl hcap
theorem Qvv {Q:Exit→Act→World→Prop} (hj:Ql8 jump jx) (hst:St M w0 n Γ (A s0 g0) a w) (hg:Fct Γ g (QaO f1 Tc)) (hc:Qj P f1) (hseq:Qqc P f1 Tc k Y s0 t) (hp:p<n) (hne:(Γ.all fun q=>q.1 !=p)=true)
  (hbody:QqM P n Γ A k p assign body jx Y)
  (hQ:∀s x D a' w' M',t=.inl s→(∀M0 E,Qbd M0 E M→Qht M0 E D M')→St M' w0 n Γ (objA D defO::A s x) a' w'→Q .normal a' w')
  (hX:∀s x D a' w' M',t=.inr s→(∀M0 E,Qbd M0 E M→Qht M0 E D M')→St M' w0 n Γ (objA D defO::A s x) a' w'→Q jx a' w'):(Code.rangeFunc g #[p] assign body).wp P Q a w:=by
 refine (wpIn_wide (n:=0)).1 (wpIn_rangeFunc fun fn _=>?_);have h1:=hst.lay defO;have h2:St M w0 n Γ (Qbo (w.alloc defO).heap.size (Qaq fn a.tmps #[p] assign body w.heap.size) Γ::objA w.heap.size defO::A s0 g0) a ((w.alloc defO).alloc (.loop (Qaq fn a.tmps #[p] assign body w.heap.size))):=h1.layA (.loop (Qaq fn a.tmps #[p] assign body w.heap.size)) (fun _=>Iff.rfl) (fun F w' hF hh h=>⟨h,fun p hp=>p.2.keep hF (fun k hk=>hh k hk.1) (h1.slots p hp)⟩);rw[World.size_alloc] at h2;obtain⟨fn1,hf1,hf2,hf3⟩:=hc;have h3:=h2.perm (Bs:=(Qbo (w.heap.size+1) (Qaq fn a.tmps #[p] assign body w.heap.size) Γ::A s0 g0)++[objA w.heap.size defO]) (by refine Perm.cons _ ?_;exact (perm_append_comm (l₁:=[objA w.heap.size defO]) (l₂:=A s0 g0)));have hW:∃W,(w.alloc defO).alloc (.loop (Qaq fn a.tmps #[p] assign body w.heap.size))=W:=⟨_,rfl⟩;obtain⟨W,hW⟩:=hW;have hen:=run_enterLoop_outer (P:=P) (w:=w) fn a.tmps #[p] assign body
 change _=Result.ok _ ((w.alloc defO).alloc (.loop (Qaq fn a.tmps #[p] assign body w.heap.size))) at hen
 rw[hW] at h2 h3 hen;obtain⟨caps,hgv,hcalls⟩:=QnB (jump:=jump) rfl hj h3 hg hseq hp hne hbody;refine⟨w.heap.size+1,[mark w.heap.size],W,{ target:=.fn (.func f1) caps.toArray,args:=#[.func (.yield (w.heap.size+1)) #[] #[]] },W,f1,#[.func (.yield (w.heap.size+1)) #[] #[]]++caps.toArray,W,hen,?_,fun _ _=>trivial,?_,fun hh=>(by cases hh),?_⟩
 ·simp[resolve,Deferred.ofValue,hgv];rfl
 ·simp only[invoke,callFunc,Sem.run_bind,Sem.run_pure,run_program,Zo,hf1,hf2,hf3,ZU,if_false]
 ·refine callsIn_wide.2 (Calls.mono (callsIn_wide.1 hcalls) ?_);rintro e w' ⟨v,x,rfl,h4⟩;have fin:∀(As:List Atom) (w'':World),St M w0 n Γ (As++[objA w.heap.size defO]) a w''→∃M',(∀M0 E,Qbd M0 E M→Qht M0 E w.heap.size M')∧St M' w0 n Γ (objA w.heap.size defO::As) { a with defers:=[mark w.heap.size]++a.defers } w'':=fun As w'' h5=>by
   have h6:=h5.perm (Bs:=objA w.heap.size defO::As) (perm_append_comm (l₁:=As) (l₂:=[objA w.heap.size defO]));exact⟨⟨M.m,M.b,[mark w.heap.size]++M.d⟩,fun M0 E hpl=>⟨hpl.b,hpl.m,hpl.d,by simp[hpl.e]⟩,⟨h6.size,by simp[h6.defers],h6.grow,h6.m0,h6.own,h6.fresh,h6.apart,h6.slots⟩⟩
  cases t with
  | inl s=>refine⟨none,_,run_endLoop (h4.own _ (Zk ..)).1 (by simp[Qaq]),?_⟩;obtain⟨M',hM',h5⟩:=fin (A s x) _ ((h4.putL { Qaq fn a.tmps #[p] assign body w.heap.size with state:=.exhausted } rfl).sub (sublist_cons_self ..));exact hQ s x _ _ _ M' rfl hM' h5
  | inr s=>
   refine⟨some jump,_,run_endLoop (h4.own _ (Zk ..)).1 (by simp),?_⟩;obtain⟨M',hM',h5⟩:=fin (A s x) _ ((h4.putL { Qaq fn a.tmps #[p] assign body w.heap.size with state:=.exhausted,pending:=some jump } rfl).sub (sublist_cons_self ..));have:=hX s x _ _ _ M' rfl hM' h5
   cases hj with
   | ret=>exact wpIn_ret this
   | exit id=>exact wpIn_exit this
theorem Qt7 {l₀:Nat} {LB:Atom} {Q:Exit→Act→World→Prop} (hj:Ql8 jump jx) (hLB:∀F w,LB.ok F w→∃r,w.heap[l₀]?=some (.loop r)) (hm:LB∈A s0 g0) (hst:St M w0 n Γ (A s0 g0) a w) (hg:Fct Γ g (QaO f1 Tc)) (hc:Qj P f1) (hseq:Qqc P f1 Tc k Y s0 t) (hp:p<n) (hne:(Γ.all fun q=>q.1 !=p)=true)
  (hbody:QqM P n Γ A k p assign body jx Y)
  (hQ:∀s x w',t=.inl s→St M w0 n Γ (A s x) a w'→Q .normal a w')
  (hX:∀s x w',t=.inr s→St M w0 n Γ (A s x) a w'→Q jx a w'):(Code.rangeFunc g #[p] assign body).wpIn (Fence.wide.inRound l₀) 0 P Q a w:=by
 obtain⟨r₀,hr₀⟩:=hLB _ _ (hst.own _ hm);refine wpIn_rangeFunc fun fn _=>?_;have h2:St M w0 n Γ (Qbo w.heap.size (Qaq fn a.tmps #[p] assign body r₀.defers) Γ::A s0 g0) a (w.alloc (.loop (Qaq fn a.tmps #[p] assign body r₀.defers))):=hst.layA (.loop (Qaq fn a.tmps #[p] assign body r₀.defers)) (fun _=>Iff.rfl) (fun F w' hF hh h=>⟨h,fun p hp=>p.2.keep hF (fun k hk=>hh k hk.1) (hst.slots p hp)⟩);obtain⟨fn1,hf1,hf2,hf3⟩:=hc;have h3:St M w0 n Γ ((Qbo w.heap.size (Qaq fn a.tmps #[p] assign body r₀.defers) Γ::A s0 g0)++[]) a (w.alloc (.loop (Qaq fn a.tmps #[p] assign body r₀.defers))):=by rw[Yh];exact h2
 have hW:∃W,w.alloc (.loop (Qaq fn a.tmps #[p] assign body r₀.defers))=W:=⟨_,rfl⟩;obtain⟨W,hW⟩:=hW;have hen:=run_enterLoop_inner (P:=P) (w:=w) hr₀ fn a.tmps #[p] assign body
 change _=Result.ok _ (w.alloc (.loop (Qaq fn a.tmps #[p] assign body r₀.defers))) at hen
 rw[hW] at h2 h3 hen;obtain⟨caps,hgv,hcalls⟩:=QnB (jump:=jump) rfl hj h3 hg hseq hp hne hbody;refine⟨w.heap.size,[],W,{ target:=.fn (.func f1) caps.toArray,args:=#[.func (.yield w.heap.size) #[] #[]] },W,f1,#[.func (.yield w.heap.size) #[] #[]]++caps.toArray,W,hen,?_,fun _ _=>trivial,?_,fun hh=>(by cases hh),?_⟩
 ·simp[resolve,Deferred.ofValue,hgv];rfl
 ·simp only[invoke,callFunc,Sem.run_bind,Sem.run_pure,run_program,Zo,hf1,hf2,hf3,ZU,if_false]
 ·refine CallsIn.inRound l₀ (callsIn_wide.2 (Calls.mono (callsIn_wide.1 hcalls) ?_));rintro e w' ⟨v,x,rfl,h4⟩;rw[Yh] at h4
  cases t with
  | inl s=>refine⟨none,_,run_endLoop (h4.own _ (Zk ..)).1 (by simp[Qaq]),?_⟩;exact hQ s x _ rfl ((h4.putL { Qaq fn a.tmps #[p] assign body r₀.defers with state:=.exhausted } rfl).sub (sublist_cons_self ..))
  | inr s=>
   refine⟨some jump,_,run_endLoop (h4.own _ (Zk ..)).1 (by simp),?_⟩;have:=hX s x _ rfl ((h4.putL { Qaq fn a.tmps #[p] assign body r₀.defers with state:=.exhausted,pending:=some jump } rfl).sub (sublist_cons_self ..))
   cases hj with
   | ret=>exact wpIn_ret this
   | exit id=>exact wpIn_exit this
end
section
variable {l m:Nat} {F:Fence} {Q:Exit→Act→World→Prop}
theorem QfK {s:Nat} {b:Bool} {x y:Code} (i:Nat) (hst:St M w0 n Γ As a w) (hi:Γ[i]?=some (s,tv (.bool b))) (ht:b=true→x.wpIn F m P Q a w) (hf:b=false→y.wpIn F m P Q a w):(Code.cond (.tmp s) x y).wpIn F m P Q a w:=by have hv:a.eval (.tmp s)=.bool b:=hst.slots (s,tv (.bool b)) (Zq hi);exact wpIn_cond_split hv ht hf
theorem Qlj {σ ρ:Type} {c:Code} (body:σ→Option (σ⊕ρ)) (I:σ→Act→World→Prop) (out:ρ) (s0:σ) (h:Ql body s0=some out) (h0:I s0 a w)
  (round:∀s o a w (K:Act→World→Prop),I s a w→body s=some o→(∀r,o=.inr r→r=out)→(∀s' a w,o=.inl s'→I s' a w→K a w)→c.wpIn F m P (Exit.then K Q) a w):(Code.loop c).wpIn F m P Q a w:=by
 obtain⟨n,hn⟩:=QcB.1 h;intro b k cs hro hb hr;have key:∀n s a w,iter body n s=some out→I s a w→∃e a' w',Q e a' w'∧ArrivesIn (Machine.fenced P F) P (lone (b.atR a (.code c::.inLoop c::k)) cs w) b k cs e a' w':=by
  intro n
  induction n with
  | zero=>intro s a w h;cases h
  | succ n ih=>
   intro s a w h hI;simp only[iter] at h
   cases hbo:body s with
   | none=>rw[hbo] at h;cases h
   | some o=>
    rw[hbo] at h;obtain⟨e,a₁,w₁,hq,harr⟩:=round s o a w (fun a' w'=>∃s',o=.inl s'∧I s' a' w') hI hbo (by rintro r rfl;simpa using h) (fun s' _ _ h1 h2=>⟨s',h1,h2⟩) b (.inLoop c::k) cs hro hb hr
    cases e with
    | normal=>obtain⟨s',rfl,hI'⟩:=hq;obtain⟨e₂,a₂,w₂,hq₂,harr₂⟩:=ih s' a₁ w₁ h hI';exact⟨e₂,a₂,w₂,hq₂,.of_steps (StepsIn.trans harr (.one (fenced_calm hb hr rfl) stepR_inLoop)) harr₂⟩
    | exit id=>exact⟨_,a₁,w₁,hq,.pass (x:=.inLoop c) rfl (fun _ _=>.inl (by simp)) harr⟩
    | goto l=>exact⟨_,a₁,w₁,hq,.pass (x:=.inLoop c) rfl (fun _ _=>.inl (by simp)) harr⟩
    | ret=>exact⟨_,a₁,w₁,hq,.pass (x:=.inLoop c) rfl (fun _ _=>.inl (by simp)) harr⟩
    | panic ch=>exact⟨_,a₁,w₁,hq,.pass (x:=.inLoop c) rfl (fun _ _=>.inl (by simp)) harr⟩
    | outgrown=>exact⟨_,a₁,w₁,hq,.pass (x:=.inLoop c) rfl (fun _ _=>.inl (by simp)) harr⟩
 obtain⟨e,a',w',hq,harr⟩:=key n s0 a w hn h0;exact⟨e,a',w',hq,.of_steps (.one (fenced_calm hb hr rfl) stepR_loop) harr⟩
theorem Qat {x y:Code} (h:∀K:Act→World→Prop,(∀a w,y.wpIn F m P Q a w→K a w)→x.wpIn F m P (Exit.then K Q) a w):(Code.seq x y).wpIn F m P Q a w:=wpIn_seq_k h
theorem QfL (h:Q .normal a w):Code.skip.wpIn F m P Q a w:=wpIn_skip h
theorem Qhv {id:Nat} (h:Q (.exit id) a w):(Code.exit id).wpIn F m P Q a w:=wpIn_exit h
theorem Qed {id:Nat} {c:Code} (h:c.wpIn F m P (Exit.inBlock id Q) a w):(Code.block id c).wpIn F m P Q a w:=wpIn_block h
theorem QaU {ops:List Oper} {l:Nat} {id:Nat} {draw:Bool} {is:List Info} (hm:P.follows .mixedOrders=true) (Ns:List Ver)
  (hst:St M w0 n Γ As a w) (hrun:∀new,Run P ops (verA As Ns) new 0 Γ ops is) (hchk:(QsR ops&&chk ops is ((verA As Ns).map (·.ds)) (Γ.map (·.1)) As.length (verA As Ns).length n)=true)
  (hQ:∀new a' w',St M w0 n (outG ops is Γ new) (Qd9 (verA As Ns) is new) a' w'→Q .normal a' w'):(Code.region id ops.toArray draw).wpIn (Fence.wide.inRound l) 0 P Q a w:=
 QnA hm (by have:=hchk;simp only[Zg] at this;exact this.1) Ns hst hrun (by have:=hchk;simp only[Zg] at this;exact this.2) hQ
end
def Qt8 {fn:Func} {rs:List ResultVar} {Ts:List Ty} {E:List Atom} {N:Value→List Atom} {T:Value→Ty} {D:Nat} (x:Value) (is:List Nat) (hpl:Qht M0 E D M) (hst:St M w0 n Γ (objA D defO::As) a w) (hrs:fn.results=rs.toArray) (h:Qdu P Γ (objA D (.deferred none)::As) rs Ts) (hd:Qa8 is=true) (hN:is.filterMap (fun i=>(objA D (.deferred none)::As)[i]?)=N x) (hT:T x=Qid Ts):RetM P fn M0 E w0 N T .ret a w:=show RetM P fn M0 E w0 N T .normal a w from Qpe x is hpl hst hrs h hd hN hT
end
def QAl {α:Type} {R:Rep α} {xs:List α}:One (tsn R xs):=fun F w v h=>Qba F w v h.1
@[reducible] def rSn {α : Type} (R : Rep α) : Rep (List α) := ⟨fun x => [tsn R x],1,false,fun _ => rfl,fun x T h F w v hv => by simp at h; subst h; exact QAl F w v hv,fun _ => rfl⟩
theorem Qye {Ts:List Ty}:One (tptr Ts):=fun F w v h=>by obtain⟨b,off,hv,_⟩:=h;rw[hv];rfl
@[reducible] def rPtr {α : Type} (R : Rep α) : Rep α := ⟨fun x => [tptr (R.cs x)],1,false,fun _ => rfl,fun x T h F w v hv => by simp at h; subst h; exact Qye F w v hv,fun _ => rfl⟩
section
variable {α:Type} {R:Rep α} {e:TypeId} {xs ys zs:List α} {v:Value}
def ownN (R:Rep α) (e:TypeId) (xs:List α) (v:Value):Atom:=⟨(own R e xs v).fp,fun F w=>(own R e xs v).ok F w∧(xs=[]→v=nilV),fun hF hh hf h=>⟨(own R e xs v).keep hF hh hf h.1,h.2⟩⟩
theorem Qkk:Qay [ownN R e xs v]=Qay [own R e xs v]:=by funext k;exact propext (by rw[Qan,Qan];exact Iff.rfl)
theorem Qpf {M:Blk} {v':Value}:next M [ownN R e xs v] [ownN R e zs v']=next M [own R e xs v] [own R e zs v']:=by unfold next;rw[Qkk,Qkk]
section
variable {P:Program} {o:Oper} {Γ:List (Nat×Ty)} {U E:List Atom} {N:Value→List Atom} {T:Value→Ty}
theorem _root_.Go.Sim.OpJ.useN (h:OpJ P o Γ (own R e xs v::U) E N T):OpJ P o Γ (ownN R e xs v::U) E N T:=OpJ.usePart (fun _ _ h=>h.1) (fun _ h=>h) h
theorem _root_.Go.Sim.OpJ.eatN (h:OpJ P o Γ U [own R e xs v] (fun x=>[own R e zs x]) T) (hz:zs≠[]):OpJ P o Γ U [ownN R e xs v] (fun x=>[ownN R e zs x]) T:=by
 intro M w a hM hU hE hap hUE he;have hg:=hE _ (Ze.2 rfl);refine (h M w a hM hU (fun A hA=>by obtain rfl:=Ze.1 hA;exact⟨hg.1.1,hg.2⟩) (pairwise_singleton _ _) (fun A hA B hB k hk hkB=>by obtain rfl:=Ze.1 hB;exact hUE A hA _ (Ze.2 rfl) k hk hkB) he).mono ?_;rintro u w' ⟨x,hs,hm,ht⟩;refine⟨x,by rw[Qkk];exact hs,⟨pairwise_singleton _ _,fun A hA k hk=>?_,fun A hA=>?_⟩,by rw[Qpf];exact ht⟩
 ·obtain rfl:=Ze.1 hA;rw[Qkk];exact hm.place _ (Ze.2 rfl) k hk
 ·obtain rfl:=Ze.1 hA;rw[Qpf];exact⟨hm.ok _ (Ze.2 rfl),fun hn=>(hz hn).elim⟩
end
def Qyf {F:Blk} {w:World} (h:(ownN R e xs v).ok F w):∃ad n c,v=.slice ad n c∧ad.isNone=xs.isEmpty:=by
 rcases QaS h.1 with⟨hv,hn⟩ | ⟨b,cap,cur,hv,_⟩
 ·exact⟨none,0,0,hv,by rw[hn];rfl⟩
 ·refine⟨_,_,_,hv,?_⟩
  cases xs with
  | nil=>have:=h.2 rfl;rw[hv] at this;cases this
  | cons x xs=>rfl
section
variable {Γ:List (Nat×Ty)} {P:Program} {d:Option Tmp} {ty:TypeId} {pos:String} {af:Array Edge} {g:Option (Nat×Bool)} {x:Operand} {t e':TypeId}
theorem Qvw {t2:TypeId} (ht:P.underlying t=some (.slice e')) (hx:Fct Γ x (tv v)):OpJ P ⟨d,.binOp .neq t x (.const (.slice none 0 0)) t2,ty,pos,af,g⟩ Γ [ownN R e xs v] [] (fun _=>[]) (fun _=>tv (.bool !xs.isEmpty)):=QcH fun M w a hU he=>by obtain⟨ad,n,c,hv,hn⟩:=Qyf (hU _ (Ze.2 rfl));have hx:=hx.val (by simp[Op.operands]) he;refine⟨.bool !ad.isNone,?_,by rw[hn];rfl⟩;simp[execOp,hx,hv,Qf4,eqGuard,binOp,QgE ht]
end
section
variable {M:Fr} {w0:World} {n:Nat} {Γ:List (Nat×Ty)} {A B:Atom} {As:List Atom} {a:Act} {w:World}
theorem St.reA (hfp:B.fp=A.fp) (hok:∀F w,A.ok F w→B.ok F w) (h:St M w0 n Γ (A::As) a w):St M w0 n Γ (B::As) a w:=by
 have e:fps (B::As)=fps (A::As):=by funext j;unfold fps;simp[hfp]
 have e2:hold M.m (B::As)=hold M.m (A::As):=by unfold hold;rw[e]
 refine⟨h.size,h.defers,h.grow,h.m0,?_,?_,?_,by rw[e2];exact h.slots⟩
 ·rw[e2];intro Z hZ;rcases Zm.1 hZ with rfl | hZ
  ·exact hok _ _ (h.own A (by simp))
  ·exact h.own Z (by simp[hZ])
 ·intro Z hZ;rcases Zm.1 hZ with rfl | hZ
  ·rw[hfp];exact h.fresh A (by simp)
  ·exact h.fresh Z (by simp[hZ])
 ·have ha:=h.apart;unfold QcL at ha ⊢;rw[pairwise_cons] at ha ⊢;refine⟨fun Z hZ=>?_,ha.2⟩;rw[hfp];exact ha.1 Z hZ
theorem St.unN (h:St M w0 n Γ (ownN R e xs v::As) a w):St M w0 n Γ (Sim.own R e xs v::As) a w:=St.reA (A:=ownN R e xs v) (B:=Sim.own R e xs v) rfl (fun _ _ h=>h.1) h
theorem St.nilN (R:Rep α) (e:TypeId) (h:St M w0 n Γ As a w):St M w0 n Γ (ownN R e ([]:List α) nilV::As) a w:=St.reA (A:=Sim.own R e ([]:List α) (.slice none 0 0)) (B:=ownN R e ([]:List α) nilV) rfl (fun _ _ h=>⟨h,fun _=>rfl⟩) (h.nil R e)
end
end

/- The logic's part on a range over a function. No condition. -/
import Derived.Test.YtmhcoofnnmiejaaGreatDoorSimL
import Derived.RangeFuncRecord
import Derived.MapKept
import Derived.Laws.Cover3
import Derived.Deep.AppendSrc
import Derived.RangeFuncNested
set_option linter.all false
open List
namespace Go.Sim
variable {α:Type} {E:List Atom} {w:World} {F:Blk} {Ts:List Ty} {A:Atom} {N:Value->List Atom} {T:Value->Ty} {β:Type} {xs:List α} {v:Value} {B:Atom} {γ:Type} {F':Blk} {M:Blk} {i:Nat} {Γl:List (Nat×Ty)} {w':World} {Q:Exit->Act->World->Prop} {R:Rep α} {h:Value} {j:Nat} {body:Code} {U:List Atom} {gy:Value} {hv:Value} {ops:List Oper} {draw:Bool} {is:List Info} {es:Array MapEntry} {tmps:Array Value} {ps:Array Tmp} {assign:Code} {l1:List Atom} {l2:List Atom} {cs:List γ}
def objA (b:Nat) (o:Obj):Atom:=⟨λk=>k=b,λ_ w=>w.heap[b]?=some o,λ_ _ hf h=>(hf b rfl).trans h⟩
def QeC (l:Nat) (r:Loop) (Γ:List (Nat×Ty)):Atom:=⟨λk=>k=l,λF w=>w.heap[l]?=some (.loop r)/\∀p∈Γ,p.2.ok F w (r.tmps.getD p.1 undef),λc C hf h=>⟨(hf l rfl).trans h.1,λp hp=>p.2.keep c C (h.2 p hp)⟩⟩
def QcJ (fn:FuncId) (tmps:Array Value) (ps:Array Tmp) (assign body:Code) (D:Nat):Loop:={ state:=.ready,pending:=none,fn,tmps,params:=ps,assign,body,defers:=D }
def mark (D:Nat):Deferred:={ target:=.collected D,args:=#[] }
abbrev defO:Obj:=.deferred (some [])
section
variable {P:Program} {M:Fr} {M0:Blk} {w0:World} {n:Nat} {Γ:List (Nat×Ty)} {As:List Atom} {a:Act} {w:World}
def St.putA {b:Nat} {o':Obj} {A':Atom} (h:St M w0 n Γ (A::As) a w) (hA:∀k,A.fp k↔k=b) (K:∀k,A'.fp k↔k=b) (X:∀(F F':Blk) (w w':World),(∀k,F k->F' k)->(∀k,F k->w'.heap[k]?=w.heap[k]?)->w'.heap[b]?=some o'->A.ok F w->A'.ok F' w'):St M w0 n Γ (A'::As) a (w.putObj b o'):=by
 have hb:=h.fresh A (by simp) b ((hA b).2 rfl);have V:∀k,hold M.m (A'::As) k->hold M.m (A::As) k:=by
  rintro k (r | ⟨B,I,r⟩)
  ·exact .inl r
  ·rcases Zp.1 I with rfl | I
   ·exact .inr ⟨A,Zq ..,(hA k).2 ((K k).1 r)⟩
   ·exact .inr ⟨B,Zz _ I,r⟩
 have H:∀k,free (hold M.m (A::As)) w k->free (hold M.m (A'::As)) (w.putObj b o') k:=λk ⟨W,Z⟩=>⟨by simpa using W,λhh=>Z (V k hh)⟩;have c:∀k,k≠b->(w.putObj b o').heap[k]?=w.heap[k]?:=λk r=>World.putObj_heap_other r;have L:∀k,free (hold M.m (A::As)) w k->k≠b:=λk Z e=>Z.2 (.inr ⟨A,Zq ..,(hA k).2 e⟩);have O:=pairwise_cons.1 h.apart;refine⟨h.size,h.defers,?_,h.m0,?_,?_,pairwise_cons.2 ⟨λB I k r=>O.1 B I k ((hA k).2 ((K k).1 r)),O.2⟩,λp hp=>p.2.keep H (λk r=>c k (L k r)) (h.Xp p hp)⟩
 ·refine h.grow.trans (C:=λk=>k=b) ⟨rfl,rfl,rfl,by simp,λk _ r=>c k r⟩ ?_;rintro i rfl hi;rcases hb.1 with W | W
  ·exact W
  ·omega
 ·intro B I;rcases Zp.1 I with rfl | I
  ·exact X _ _ _ _ H (λk r=>c k (L k r)) (World.putObj_heap_same hb.2) (h.own A (Zq ..))
  ·exact B.keep H (λk r=>c k (L k r)) (λk r=>c k (λe=>O.1 B I b ((hA b).2 rfl) (e▸r))) (h.own B (Zz _ I))
 ·intro B I k r;rw[World.putObj_size];rcases Zp.1 I with rfl | I
  ·exact h.fresh A (Zq ..) k ((hA k).2 ((K k).1 r))
  ·exact h.fresh B (Zz _ I) k r
def St.putO {b:Nat} {o:Obj} (o':Obj) (h:St M w0 n Γ (objA b o::As) a w):St M w0 n Γ (objA b o'::As) a (w.putObj b o'):=h.putA (λ_=>Iff.rfl) (λ_=>Iff.rfl) (λ_ _ _ _ _ _ h _=>h)
def St.putL {b:Nat} {r:Loop} (c:Loop) (h:St M w0 n Γ (QeC b r Γl::As) a w) (C:c.tmps=r.tmps):St M w0 n Γ (QeC b c Γl::As) a (w.putObj b (.loop c)):=h.putA (λ_=>Iff.rfl) (λ_=>Iff.rfl) (λ_ _ _ _ H I K L=>⟨K,λp hp=>by rw[C];exact p.2.keep H I (L.2 p hp)⟩)
def St.layA (o:Obj) (h:St M w0 n Γ As a w) (hA:∀k,A.fp k↔k=w.heap.size) (K:∀(F:Blk) (w':World),(∀k,free (hold M.m As) w k->F k)->(∀k,k<w.heap.size->w'.heap[k]?=w.heap[k]?)->w'.heap[w.heap.size]?=some o->A.ok F w'):St M w0 n Γ (A::As) a (w.alloc o):=by
 have I:∀A∈As,∀k,A.fp k->k<w.heap.size:=λA hA k c=>(h.fresh A hA k c).2;have C:∀k,free (hold M.m As) w k->free (hold M.m (A::As)) (w.alloc o) k:=by
  rintro k ⟨V,O⟩;refine⟨by simp;omega,?_⟩;rintro (c | ⟨B,H,c⟩)
  ·exact O (.inl c)
  ·rcases Zp.1 H with rfl | H
   ·exact absurd ((hA k).1 c) (Nat.ne_of_lt V)
   ·exact O (.inr ⟨B,H,c⟩)
 have r:∀k,k<w.heap.size->(w.alloc o).heap[k]?=w.heap[k]?:=λk c=>Go.RowKit.Below.heap_alloc w o k c;refine⟨h.size,h.defers,h.grow.trans (Step.alloc w o) (λ_ W=>W.elim),h.m0,?_,?_,pairwise_cons.2 ⟨?_,h.apart⟩,λp hp=>p.2.keep C (λk c=>r k c.1) (h.Xp p hp)⟩
 ·intro B H;rcases Zp.1 H with rfl | H
  ·exact K _ _ C r (World.alloc_heap_new w o)
  ·exact B.keep C (λk c=>r k c.1) (λk c=>r k (I B H k c)) (h.own B H)
 ·intro B H k c;rcases Zp.1 H with rfl | H
  ·obtain rfl:k=w.heap.size:=(hA k).1 c;exact⟨.inr h.grow.size,by simp⟩
  ·have:=h.fresh B H k c;exact⟨this.1,by simp;omega⟩
 ·intro B H k c L;obtain rfl:k=w.heap.size:=(hA k).1 c;exact absurd (I B H _ L) (Nat.lt_irrefl _)
def St.lay (o:Obj) (h:St M w0 n Γ As a w):St M w0 n Γ (objA w.heap.size o::As) a (w.alloc o):=h.layA o (λ_=>Iff.rfl) (λ_ _ _ _ h=>h)
def St.called {R N:List Atom} (h:St M w0 n Γ (E++R) a w) (hs:Step (QaP E) w w') (hm:Made (hold M.m (E++R)) E N w w'):St M w0 n Γ (N++R) a w':=by
 have O:=pairwise_append.1 h.apart;have Z:∀k,QaP E k->(M.b k\/w0.heap.size<=k)/\k<w.heap.size:=λk ⟨A,hA,c⟩=>h.fresh A (mem_append_left _ hA) k c;have a0:∀k,M.m k->¬QaP E k:=λk c he=>by
  have h0:=h.m0 k c;rcases (Z k he).1 with r | r
  ·exact h0.2 r
  ·have:=h0.1;omega
 have I:∀k,next (hold M.m (E++R)) E N k↔hold M.m (N++R) k:=by
  intro k;constructor
  ·rintro (⟨c | ⟨A,hA,c⟩,hne⟩ | ⟨A,hA,c⟩)
   ·exact .inl c
   ·rcases ZB.1 hA with hA | hA
    ·exact (hne ⟨A,hA,c⟩).elim
    ·exact .inr ⟨A,mem_append_right _ hA,c⟩
   ·exact .inr ⟨A,mem_append_left _ hA,c⟩
  ·rintro (c | ⟨A,hA,c⟩)
   ·exact .inl ⟨.inl c,a0 k c⟩
   ·rcases ZB.1 hA with hA | hA
    ·exact .inr ⟨A,hA,c⟩
    ·exact .inl ⟨.inr ⟨A,mem_append_right _ hA,c⟩,λ⟨B,W,H⟩=>O.2.2 B W A hA k H c⟩
 have K:∀k,free (hold M.m (E++R)) w k->free (hold M.m (N++R)) w' k:=by
  rintro k ⟨r,X⟩;refine⟨ZL r hs.size,λhh=>?_⟩;rcases (I k).2 hh with⟨c,_⟩ | ⟨A,hA,c⟩
  ·exact X c
  ·rcases (hm.place A hA k c).1 with⟨B,W,H⟩ | a2
   ·exact X (.inr ⟨B,mem_append_left _ W,H⟩)
   ·omega
 have L:∀k,free (hold M.m (E++R)) w k->w'.heap[k]?=w.heap[k]?:=λk ⟨r,X⟩=>hs.same k r (λ⟨A,hA,c⟩=>X (.inr ⟨A,mem_append_left _ hA,c⟩));have V:∀A∈N++R,∀k,A.fp k->(M.b k\/w0.heap.size<=k)/\k<w'.heap.size:=by
  intro A hA k c;rcases ZB.1 hA with hA | hA
  ·obtain⟨r,X⟩:=hm.place A hA k c;refine⟨?_,X⟩;rcases r with r | r
   ·exact (Z k r).1
   ·exact .inr (Yo h.grow.size r)
  ·have:=h.fresh A (mem_append_right _ hA) k c;exact⟨this.1,ZL this.2 hs.size⟩
 refine⟨h.size,h.defers,h.grow.trans hs (λi hi a3=>?_),h.m0,?_,V,pairwise_append.2 ⟨hm.apart,O.2.1,?_⟩,λp hp=>p.2.keep K L (h.Xp p hp)⟩
 ·rcases (Z i hi).1 with r | r
  ·exact r
  ·omega
 ·intro A hA;rcases ZB.1 hA with hA | hA
  ·exact A.keep (λk ⟨r,X⟩=>⟨r,λhh=>X ((I k).2 hh)⟩) (λ_ _=>rfl) (λ_ _=>rfl) (hm.ok A hA)
  ·refine A.keep K L (λk c=>hs.same k (h.fresh A (mem_append_right _ hA) k c).2 ?_) (h.own A (mem_append_right _ hA));rintro ⟨B,W,H⟩;exact O.2.2 B W A hA k H c
 ·intro A hA B W k c H;rcases (hm.place A hA k c).1 with⟨C,hC,a1⟩ | r
  ·exact O.2.2 C hC B W k a1 H
  ·have:=(h.fresh B (mem_append_right _ W) k H).2;omega
def Qsq (K:∀k,M0 k->k<w.heap.size) (r:Qgn M0 E w) (C:QcR E) (ha:a.tmps.size=n) (W:a.defers=[]) (H:∀p∈Γ,p.2.ok (free M0 w) w (get a p.1)):
  ∃M,Qcz M0 E M/\St M w n Γ E a w:=by
 have I:Qcz M0 E ⟨λk=>M0 k/\¬QaP E k,QaP E,[]⟩:=by
  refine⟨rfl,λk=>⟨λc=>?_,?_⟩,λk c=>c.2,rfl⟩
  ·by_cases L:QaP E k
   ·exact .inr L
   ·exact .inl ⟨c,L⟩
  ·rintro (c | c)
   ·exact c.1
   ·exact Qcy r k c
 have O:∀k,free M0 w k->free (hold (λk=>M0 k/\¬QaP E k) E) w k:=by
  rintro k ⟨X,V⟩;refine⟨X,?_⟩;rintro (hm | hm)
  ·exact V hm.1
  ·exact V (Qcy r k hm)
 exact⟨_,I,⟨ha,W,Step.refl _ _,λk c=>⟨K k c.1,c.2⟩,λA hA=>A.keep O (λ_ _=>rfl) (λ_ _=>rfl) (r A hA).1,λA hA k c=>⟨.inl ⟨A,hA,c⟩,K k ((r A hA).2 k c)⟩,C,λp hp=>p.2.keep O (λ_ _=>rfl) (H p hp)⟩⟩
def Qqz {N:List Atom} (is:List Nat) (C:Qcz M0 E M) (r:St M w0 n Γ As a w) (O:Qcb is=true) (K:is.filterMap (λi=>As[i]?)=N):Step (QaP E) w0 w/\Made M0 E N w0 w:=by
 have c:∀A,A∈N->A∈As:=by intro A hA;rw[<-K] at hA;obtain⟨i,_,hi⟩:=Yu.1 hA;exact Zl hi
 have H:∀k,free (hold M.m As) w k->free (next M0 E N) w k:=by
  rintro k ⟨V,L⟩;refine⟨V,?_⟩;rintro (⟨hm,hne⟩ | ⟨A,hA,I⟩)
  ·rcases (C.m k).1 hm with hm | hm
   ·exact L (.inl hm)
   ·exact hne hm
  ·exact L (.inr ⟨A,c A hA,I⟩)
 refine⟨by rw[<-C.b];exact r.grow,⟨?_,λA hA k I=>?_,λA hA=>Atom.keep _ H (λ_ _=>rfl) (λ_ _=>rfl) (r.own _ (c A hA))⟩⟩
 ·rw[<-K];exact Qq1 r.apart O
 ·have:=r.fresh A (c A hA) k I;rw[C.b] at this;exact this
def Qt7 {l:Nat} {r:Loop} {F:Fence} {m:Nat} (C:St M w0 n Γ (QeC l r Γl::As) a w) (H:r.state=.ready) (h:∀c,St M w0 n Γ (QeC l { r with state:=.busy } Γl::As) a c->body.wpIn F m P Q a c):∃c,(Instr.beginRound l).run P w=.ok () c/\body.wpIn F m P Q a c:=
 ⟨_,run_beginRound (C.own _ (Zq ..)).1 H,h _ (C.putL _ rfl)⟩
structure QlX (M0:Blk) (E:List Atom) (D:Nat) (M:Fr):Prop where
 b:M.b=QaP E
 m:∀k,M0 k↔M.m k\/QaP E k
 d:∀k,M.m k->¬QaP E k
 e:M.d=[mark D]
def RetM (P:Program) (c:Func) (M:Blk) (E:List Atom) (w0:World) (N:Value->List Atom) (T:Value->Ty):Exit->Act->World->Prop:=bodyPostM Fence.wide 0 P c (λe w'=>∃x v,e=.returned v/\Step (QaP E) w0 w'/\Made M E (N x) w0 w'/\(T x).ok (free (next M E (N x)) w') w' v)
def FnOk.enterM {f:FuncId} {r:Func} {c:Code} (hf:P.funcs[f]?=some r) (hb:r.body=some c) (hn:r.ntmps=n) (hl:Ts.length<=n) (h:∀M0 M w a,Qcz M0 E M->St M w n (ents Ts) E a w->c.wp P (RetM P r M0 E w N T) a w):FnOk P f Ts E N T:=by
 intro M0 w vs hM hE V hc;have W:=hc.1;obtain⟨M,X,Z⟩:=Qsq (Γ:=ents Ts) (n:=n) (a:={ tmps:=vs.toArray++Array.replicate (r.ntmps - vs.toArray.size) undef,defers:=[] }) hM hE V (by simp[hn];omega) rfl (by
  intro p hp;obtain⟨⟨T',i⟩,C,rfl⟩:=ZP.1 hp;obtain⟨j,L⟩:=ZT.1 C;rw[getElem?_zipIdx] at L
  cases O:Ts[j]? with
  | none=>simp[O] at L
  | some H=>
   simp only[O,ZW,ZM,Yr] at L;obtain⟨rfl,rfl⟩:=L;have I:j<vs.length:=by rw[W];exact (Ze.1 O).1
   have K:get { tmps:=vs.toArray++Array.replicate (r.ntmps - vs.toArray.size) undef,defers:=[] } (0+j)=vs[j]:=by unfold get;simp[Array.getElem?_append,I]
   show H.ok _ _ (get _ (0+j));rw[K];exact hc.2 j H vs[j] O (Zd I))
 exact callsIn_wide.1 (callsIn_of_wp_marks (n:=0) hf hb trivial ((wpIn_wide (n:=0)).2 (h M0 M w _ X Z)) rfl)
def Qmq {c:Func} (h:Ret P c M0 E w0 N T .ret a w):RetM P c M0 E w0 N T .ret a w:=by obtain⟨r,v,hv,C⟩:=h;show LeavesInM _ _ _ _ _ _ a.defers _ _;rw[r];exact⟨v,hv,C⟩
def Qxs {K:Func} {rs:List ResultVar} {D:Nat} (x:Value) (is:List Nat) (c:QlX M0 E D M) (C:St M w0 n Γ (objA D defO::As) a w) (H:K.results=rs.toArray) (h:QeA P Γ (objA D (.deferred none)::As) rs Ts) (L:Qcb is=true) (O:is.filterMap (λi=>(objA D (.deferred none)::As)[i]?)=N x) (V:T x=Qki Ts):RetM P K M0 E w0 N T .normal a w:=by
 have r:=C.putO (.deferred none);have I:=r.defers;have W:St ⟨M.m,M.b,[]⟩ w0 n Γ (objA D (.deferred none)::As) { a with defers:=[] } (w.putObj D (.deferred none)):=⟨r.size,rfl,r.grow,r.m0,r.own,r.fresh,r.apart,r.Xp⟩;obtain⟨_,v,hv,X⟩:=QfT (P:=P) x is (⟨c.b,c.m,c.d,rfl⟩:Qcz M0 E ⟨M.m,M.b,[]⟩) W H h L O V;show LeavesInM _ _ _ _ _ _ a.defers _ _;rw[I,c.e];exact⟨by simp,.inl ⟨D,_,rfl,run_takeDeferred (C.own _ (Zq ..)),v,hv,X⟩⟩
def QuF (ops:List Oper):Bool:=ops.all λo=>match o.op with | .defer _=>false | _=>true
def wp_rgR {l:Nat} {id:Nat} (hm:P.follows .mixedOrders=true) (L:QuF ops=true) (r:List Ver) (I:St M w0 n Γ As a w) (C:∀new,Run P ops (verA As r) new 0 Γ ops is) (H:chk ops is ((verA As r).map (·.ds)) (Γ.map (·.1)) As.length (verA As r).length n=true) (O:∀new K w',St M w0 n (outG ops is Γ new) (Qfp (verA As r) is new) K w'->Q .normal K w'):(Code.region id ops.toArray draw).wpIn (Fence.wide.inRound l) 0 P Q a w:=
 QCZ hm (λo V c e=>by have:=ZD.1 L o V;rw[e] at this;cases this) r I C H O
def Qxt {q:Value} {w:World} (h:(box Ts q).ok F w):q.oneCell'=true:=by obtain⟨b,_,_,c,_⟩:=h;rw[c];rfl
section
variable {d:Option Tmp} {ty:TypeId} {pos:String} {af:Array Edge} {g:Option (Nat×Bool)} {x:Operand} {t:TypeId} {bytes:Nat} {z:Value}
def QC0 {q:Value} (hx:Fct Γ x (tv q)):OpJ P ⟨d,.box t x,ty,pos,af,g⟩ Γ [box Ts q] [] (λ_=>[]) (λ_=>tptr (rVal.cs q)):=.say (A:=box Ts q) (by simp) (λ_ _ h=>Qxt h) λc=>(Qg4 (R:=rVal) (u:=q) (hx.Xo λ_ _ _ h=>⟨h,c⟩)).Xq (λA hA=>by cases hA)
def QcN {q:Value} (hz:TOk P t rVal bytes z) (hp:Fct Γ x (tptr (rVal.cs q))):OpJ P ⟨d,.load t x,ty,pos,af,g⟩ Γ [] [] (λ_=>[]) (λ_=>tv q):=QlU (Q4 (R:=rVal) (u:=q) hz hp) (λ_ _ _ _ h=>h.1)
end
end
section
variable {s:Nat} {w b:Bool} {Γ:List (Nat×Ty)} {e0 e1 e2 e3 e4 e5 e6 e7 e8 e9 e10 e11:Nat×Ty}
def bq0:Grd ((s,tv (.bool b))::Γ) s w (b==w):=.b 0 rfl
def bq1:Grd (e0::(s,tv (.bool b))::Γ) s w (b==w):=.b 1 rfl
def bq2:Grd (e0::e1::(s,tv (.bool b))::Γ) s w (b==w):=.b 2 rfl
def bq3:Grd (e0::e1::e2::(s,tv (.bool b))::Γ) s w (b==w):=.b 3 rfl
def bq6:Grd (e0::e1::e2::e3::e4::e5::(s,tv (.bool b))::Γ) s w (b==w):=.b 6 rfl
end
def bs2 {x:Option α} {f:α->Option β} {g:α->β->Option γ} {r:γ} (h:(x.bind λa=>(f a).bind (g a))=some r):∃a,x=some a/\∃b,f a=some b/\g a b=some r:=by obtain⟨a,c,C⟩:=bind_some h;obtain⟨b,H,I⟩:=bind_some C;exact⟨a,c,b,H,I⟩
def bs3 {C:Type} {x:Option α} {f:α->Option β} {g:α->β->Option γ} {k:α->β->γ->Option C} {r:C} (h:(x.bind λa=>(f a).bind λb=>(g a b).bind (k a b))=some r):∃a,x=some a/\∃b,f a=some b/\∃c,g a b=some c/\k a b c=some r:=by obtain⟨a,H,I⟩:=bind_some h;obtain⟨b,K,L⟩:=bind_some I;obtain⟨c,O,V⟩:=bind_some L;exact⟨a,H,b,K,c,O,V⟩
def bs4 {C H:Type} {x:Option α} {f:α->Option β} {g:α->β->Option γ} {k:α->β->γ->Option C} {l:α->β->γ->C->Option H} {r:H} (h:(x.bind λa=>(f a).bind λb=>(g a b).bind λc=>(k a b c).bind (l a b c))=some r):∃a,x=some a/\∃b,f a=some b/\∃c,g a b=some c/\∃d,k a b c=some d/\l a b c d=some r:=by obtain⟨a,I,K⟩:=bind_some h;obtain⟨b,L,c,O,d,V,W⟩:=bs3 K;exact⟨a,I,b,L,c,O,d,V,W⟩
def bs {x:Option α} {f:α->Option β} {r:β} (h:x.bind f=some r):∃a,x=some a/\f a=some r:=bind_some h
section
variable {P:Program} {M:Fr} {M0:Blk} {w0 w:World} {n:Nat} {Γ:List (Nat×Ty)} {As:List Atom} {a:Act}
def wi {s:Nat} {b:Bool} {x y:Option α} {r:α} {C H:Code} (c:St M w0 n ((s,tv (.bool b))::Γ) As a w) (h:(if b=true then x else y)=some r) (ht:b=true->x=some r->C.wp P Q a w) (hf:b=false->y=some r->H.wp P Q a w):(Code.cond (.tmp s) C H).wp P Q a w:=wt c (λhb=>ht hb (QhV hb h)) (λhb=>hf hb (QhW hb h))
def fe {f:FuncId} {r:Func} {c:Code} (hf:P.funcs[f]?=some r) (C:r.ntmps=n) (h:∀M0 M w a,Qcz M0 E M->St M w n (ents Ts) E a w->c.wp P (Ret P r M0 E w N T) a w) (hb:r.body=some c:=by rfl) (hl:Ts.length<=n:=by exact Nat.le_of_ble_eq_true rfl):FnOk P f Ts E N T:=FnOk.enter hf hb C hl h
def rt {H:Func} {rs:List ResultVar} (x:Value) (is:List Nat) (c:Qcz M0 E M) (r:St M w0 n Γ As a w) (h:QeA P Γ As rs Ts) (C:H.results=rs.toArray:=by rfl) (I:Qcb is=true:=by rfl) (K:is.filterMap (λi=>As[i]?)=N x:=by rfl) (L:T x=Qki Ts:=by rfl):Ret P H M0 E w0 N T .ret a w:=QfT x is c r C h I K L
def r0 {e r:α} {P:Program} {a:Act} {w:World} (h:some e=some r) (k:e=r->Q .ret a w):Code.ret.wp P Q a w:=wp_ret (k (Zn h))
def r1 {H:Func} {rs:List ResultVar} (c:Qcz M0 E M) (r:St M w0 n Γ As a w) (h:QeA P Γ As rs Ts) (C:H.results=rs.toArray:=by rfl) (I:([]:List Atom)=N undef:=by rfl) (K:T undef=Qki Ts:=by rfl):Ret P H M0 E w0 N T .ret a w:=QfT undef [] c r C h rfl I K
end
section
open Go.MapKept
section
variable {α:Type}
def mget:List (Int×α)->Int->Option α
 | [],_=>none
 | p::l,i=>if i=p.1 then some p.2 else mget l i
def mset:List (Int×α)->Int->α->List (Int×α)
 | [],i,y=>[(i,y)]
 | p::l,i,y=>if i=p.1 then (i,y)::l else p::mset l i y
def Qb3:∀(l:List (Int×α)) (i:Int) (y:α) (j:Int),mget (mset l i y) j=if j=i then some y else mget l j
 | [],i,y,j=>by simp[mset,mget]
 | p::l,i,y,j=>by
  unfold mset;by_cases h:i=p.1
  ·rw[Zc h];unfold mget;by_cases c:j=i
   ·rw[Zc c,Zc c]
   ·rw[Zb c,Zb c,Zb (by rw[<-h];exact c)]
  ·rw[Zb h];unfold mget;by_cases hp:j=p.1
   ·rw[Zc hp,Zc hp,Zb (by rw[hp];exact λe=>h e.symm)]
   ·rw[Zb hp,Zb hp];exact Qb3 l i y j
abbrev Mp (α:Type):=Option (List (Int×α))
def QaX (m:Mp α) (i:Int):Option α:=m.bind λl=>mget l i
def mput (m:Mp α) (i:Int) (y:α):Option (Mp α):=m.map λl=>some (mset l i y)
structure Qkl (R:Rep α) (F:Blk) (w:World) (es:Array MapEntry) (l:List (Int×α)):Prop where
 all:∀e∈es.toList,∃i x,e.key=.int .i64 i/\mget l i=some x/\(R.ty x).ok F w e.val
 has:∀i x,mget l i=some x->∃e∈es.toList,e.key=.int .i64 i
 one:∀(n n':Nat) (e e':MapEntry),es.toList[n]?=some e->es.toList[n']?=some e'->e.key=e'.key->n=n'
def Qkl.keep {R:Rep α} {l:List (Int×α)} (c:∀k,F k->F' k) (r:∀k,F k->w'.heap[k]?=w.heap[k]?) (h:Qkl R F w es l):Qkl R F' w' es l:=⟨λe C=>let⟨i,x,H,I,K⟩:=h.all e C;⟨i,x,H,I,(R.ty x).keep c r K⟩,h.has,h.one⟩
def Qv2 (R:Rep α) (F:Blk) (w:World) (m:Mp α) (v:Value):Prop:=match m with | none=>v=.map none | some l=>∃b es c,v=.map (some b)/\w.heap[b]?=some (.map es c)/\Qkl R F w es l
def omap (R:Rep α) (m:Mp α) (v:Value):Atom:=
 ⟨λk=>v=.map (some k),λF w=>Qv2 R F w m v,
  by
   intro F F' w w' C H hf h
   cases m with
   | none=>exact h
   | some l=>obtain⟨b,es,c,r,I,K⟩:=h;exact⟨b,es,c,r,by rw[hf b r];exact I,K.keep C H⟩⟩
def tmap (R:Rep α) (m:Mp α):Ty:=
 ⟨λF w v=>match m with | none=>v=.map none | some l=>∃b es c,v=.map (some b)/\F b/\w.heap[b]?=some (.map es c)/\Qkl R F w es l,
  by
   intro F F' w w' v r C h
   cases m with
   | none=>exact h
   | some l=>obtain⟨b,es,c,I,H,K,L⟩:=h;exact⟨b,es,c,I,r b H,by rw[C b H];exact K,L.keep r C⟩⟩
def QAu {R:Rep α} {m:Mp α}:One (tmap R m):=λF w v h=>by
 cases m with
 | none=>have:v=.map none:=h;rw[this];rfl
 | some l=>obtain⟨b,es,c,r,_⟩:=h;rw[r];rfl
@[reducible] def rMp (R : Rep α) : Rep (Mp α) := ⟨λm => [tmap R m],1,false,λ_ => rfl,λm T c F w v hv => by simp at c; subst c; exact QAu F w v hv,λ_ => rfl⟩
end
section
variable {Γ:List (Nat×Ty)} {P:Program} {d:Option Tmp} {ty:TypeId} {pos:String} {af:Array Edge} {g:Option (Nat×Bool)} {x y q:Operand} {t kt et:TypeId} {α:Type} {R:Rep α} {bytes:Nat} {z:Value} {m:Mp α} {v:Value} {i:Int} {u:α}
def QiM (i:Int):IsKey (.int .i64) (.int .i64 i):=rfl
def Qkl.keys {l:List (Int×α)} (h:Qkl R F w es l):∀e∈es.toList,IsKey (.int .i64) e.key:=λe c=>by obtain⟨i,x,r,_⟩:=h.all e c;rw[r];exact QiM i
def QoU (ht:P.underlying t=some (.map kt et)) (H:P.underlying kt=some (.int .i64)) (hz:(zeroValue et).run P w=.ok z w) {x0:α} (I:(R.ty x0).ok F w z) (h:Qv2 R F w m v) (ok:Bool):
  ∃r,(Instr.lookup t v (.int .i64 i) ok).run P w=.ok (if ok=true then .tuple #[r,.bool (QaX m i).isSome] else r) w/\(R.ty ((QaX m i).getD x0)).ok F w r:=by
 cases m with
 | none=>have hv:v=.map none:=h;subst hv;refine⟨z,?_,I⟩;have C:(Instr.checkKey true 10000 kt (.int .i64 i)).run P w=.ok () w:=Go.MapKept.run_checkKey H (QiM i) true 9999;have hf:(Instr.findKey kt (.int .i64 i) ([]:List MapEntry)).run P w=.ok none w:=Go.MapKept.run_findKey H rfl;cases ok<;>simp[Instr.lookup,run_underlying ht,C,hf,hz,QaX,Result.andThen]
 | some l=>
  obtain⟨b,es,c,hv,hb,hm⟩:=h;subst hv;have C:∀e,(Instr.checkKey e 10000 kt (.int .i64 i)).run P w=.ok () w:=λe=>Go.MapKept.run_checkKey H (QiM i) e 9999;rcases findNow_spec (QiM i) es.toList 0 hm.keys with⟨K,L⟩ | ⟨j,e,K,L,X⟩
  ·have V:mget l i=none:=by
    cases Z:mget l i with
    | none=>rfl
    | some u=>obtain⟨e,he,H⟩:=hm.has i u Z;exact absurd H (L e he)
   refine⟨z,?_,by show (R.ty ((mget l i).getD x0)).ok F w z;rw[V];exact I⟩;have e0:QaX (some l) i=none:=V;cases ok<;>simp[Instr.lookup,run_underlying ht,Go.MapKept.run_getObj_map hb,C,Go.MapKept.run_findKey H K,hz,e0,Result.andThen]
  ·obtain⟨i',u,O,W,h6⟩:=hm.all e (Zl L);rw[X] at O;simp only[Value.int.injEq,true_and] at O;subst O;refine⟨e.val,?_,by show (R.ty ((mget l i).getD x0)).ok F w e.val;rw[W];exact h6⟩;have e0:QaX (some l) i=some u:=W;cases ok<;>simp[Instr.lookup,run_underlying ht,Go.MapKept.run_getObj_map hb,C,Go.MapKept.run_findKey H K,e0,Result.andThen]
def QkU (hz:TOk P et R bytes z):(zeroValue et).run P w=.ok z w:=by obtain⟨ti,c,r,_⟩:=hz.info;simp[zeroValue,typeInfo,c,r]
def Qmr {x0:α} (ht:P.underlying t=some (.map kt et)) (H:P.underlying kt=some (.int .i64)) (hz:TOk P et R bytes z) (c:∀F w,(R.ty x0).ok F w z) (hx:Fct Γ x (tv v)) (hi:Fct Γ y (tv (.int .i64 i))):
  OpJ P ⟨d,.lookup t x y false,ty,pos,af,g⟩ Γ [omap R m v] [] (λ_=>[]) (λ_=>R.ty ((QaX m i).getD x0)):=
 Qb8 λM w a hU C=>by have I:=hx.val (by simp[Op.operands]) C;have K:=hi.val (by simp[Op.operands]) C;obtain⟨r,L,O⟩:=QoU (i:=i) ht H (QkU hz) (c (free M w) w) (hU _ (Zg.2 rfl)) false;exact⟨r,by simp only[execOp,I,K,Sem.run_bind,L,Zj,Sem.run_pure];rfl,O⟩
def Qq8 {x0:α} (ht:P.underlying t=some (.map kt et)) (H:P.underlying kt=some (.int .i64)) (hz:TOk P et R bytes z) (c:∀F w,(R.ty x0).ok F w z) (hx:Fct Γ x (tv v)) (hi:Fct Γ y (tv (.int .i64 i))):
  OpJ P ⟨d,.lookup t x y true,ty,pos,af,g⟩ Γ [omap R m v] [] (λ_=>[]) (λ_=>ttup [R.ty ((QaX m i).getD x0),tv (.bool (QaX m i).isSome)]):=
 Qb8 λM w a hU C=>by have I:=hx.val (by simp[Op.operands]) C;have K:=hi.val (by simp[Op.operands]) C;obtain⟨r,L,O⟩:=QoU (i:=i) ht H (QkU hz) (c (free M w) w) (hU _ (Zg.2 rfl)) true;exact⟨_,by simp only[execOp,I,K,Sem.run_bind,L,Zj,Sem.run_pure];rfl,[r,.bool (QaX m i).isSome],rfl,.cons O (.cons rfl .nil)⟩
def QAv (h:(tmap R m).ok F w v):Qv2 R F w m v:=by
 cases m with
 | none=>exact h
 | some l=>obtain⟨b,es,c,r,_,C,H⟩:=h;exact⟨b,es,c,r,C,H⟩
def Qsr {x0:α} (ht:P.underlying t=some (.map kt et)) (H:P.underlying kt=some (.int .i64)) (hz:TOk P et R bytes z) (c:∀F w,(R.ty x0).ok F w z) (hx:Fct Γ x (tmap R m)) (hi:Fct Γ y (tv (.int .i64 i))):
  OpJ P ⟨d,.lookup t x y false,ty,pos,af,g⟩ Γ [] [] (λ_=>[]) (λ_=>R.ty ((QaX m i).getD x0)):=
 QaH λF w a C=>by have I:=hx.use (by simp[Op.operands]) C;have K:=hi.val (by simp[Op.operands]) C;obtain⟨r,L,O⟩:=QoU (i:=i) ht H (QkU hz) (c F w) (QAv I) false;exact⟨r,by simp only[execOp,K,Sem.run_bind,L,Zj,Sem.run_pure];rfl,O⟩
def Qkm (R:Rep α):OpJ P ⟨d,.makeMap t none,ty,pos,af,g⟩ Γ [] [] (λv=>[omap R (some []) v]) (λv=>tv v):=by
 intro M w A I _ _ _ _ _;have c:(execOp A.eval (⟨d,.makeMap t none,ty,pos,af,g⟩:Oper)).run P w=.ok (.value (.map (some w.heap.size))) (w.alloc (.map #[] 0)):=rfl;simp only[Does,c];have hb:=(heap_alloc w (.map #[] 0)).1;refine⟨.map (some w.heap.size),(Step.alloc w _).mono (λ_ h=>h.elim),Qbx (λk C=>?_) ?_,rfl⟩
 ·have r:Value.map (some w.heap.size)=.map (some k):=C;simp only[Value.map.injEq,ZM] at r;subst r;exact⟨.inr (Zr _),by simp⟩
 ·exact⟨w.heap.size,#[],0,rfl,hb,⟨λe H=>(by simp at H),λi u h=>(by cases h),λn K e e' h=>(by simp at h)⟩⟩
def QjS {m':Mp α} (ht:P.underlying t=some (.map kt et)) (W:P.underlying kt=some (.int .i64)) (hx:Fct Γ x (tv v)) (hi:Fct Γ y (tv (.int .i64 i))) (hq:Fct Γ q (R.ty u)) (h:mput m i u=some m'):
  OpJ P ⟨d,.mapUpdate t x y q,ty,pos,af,g⟩ Γ [] [omap R m v] (λ_=>[omap R m' v]) (λ_=>tany):=by
 intro M w A hM _ hE _ _ X;obtain⟨ho,a9⟩:=hE _ (Zg.2 rfl);have a6:=Qcy hE;have h1:=hx.val (by simp[Op.operands]) X;have h2:=hi.val (by simp[Op.operands]) X;have h3:=hq.use (by simp[Op.operands]) X
 cases m with
 | none=>cases h
 | some l=>
  obtain rfl:some (mset l i u)=m':=by simpa[mput] using h
  obtain⟨b,es,c,hv,hb,hm⟩:=ho;have b0:b<w.heap.size:=(Array.getElem?_eq_some_iff.1 hb).1;have key:∃H c',(Instr.mapUpdate t v (.int .i64 i) (A.eval q)).run P w=.ok () { w with heap:=w.heap.setIfInBounds b (.map H c') }/\Qkl R (free M w) w H (mset l i u):=by
   subst hv;rcases findNow_spec (QiM i) es.toList 0 hm.keys with⟨f1,f2⟩ | ⟨j,e,f1,f2,f3⟩
   ·refine⟨es.push ⟨.int .i64 i,A.eval q,c⟩,c+1,by simp[Instr.mapUpdate,run_underlying ht,Go.MapKept.run_getObj_map hb,Go.MapKept.run_checkKey W (QiM i),Go.MapKept.run_findKey W f1,Go.MapKept.run_setObj_map _ hb,Result.andThen],⟨λe X=>?_,λj y hj=>?_,λn n' e e' r a7 K=>?_⟩⟩
    ·simp only[Array.toList_push,ZB,Zg] at X;rcases X with X | rfl
     ·obtain⟨k,y,g1,g2,g3⟩:=hm.all e X;refine⟨k,y,g1,?_,g3⟩;rw[Qb3,Zb (λe2=>f2 e X (by rw[g1,e2]))];exact g2
     ·exact⟨i,u,rfl,by rw[Qb3,Zc rfl],h3⟩
    ·rw[Qb3] at hj;by_cases e:j=i
     ·subst e;exact⟨_,by rw[Array.toList_push];exact mem_append_right _ (mem_singleton_self _),rfl⟩
     ·rw[Zb e] at hj;obtain⟨e',a0,b3⟩:=hm.has j y hj;exact⟨e',by rw[Array.toList_push];exact mem_append_left _ a0,b3⟩
    ·rw[Array.toList_push] at r a7;have I:∀(n:Nat) (e:MapEntry),(es.toList++[⟨.int .i64 i,A.eval q,c⟩])[n]?=some e->es.toList[n]?=some e\/(n=es.toList.length/\e.key=.int .i64 i):=λn e h=>by
      rw[getElem?_append] at h;split at h
      ·exact .inl h
      ·rename_i b7;rw[getElem?_singleton] at h;split at h
       ·exact .inr ⟨by omega,by cases h;rfl⟩
       ·cases h
     rcases I n e r with a | ⟨a1,a2⟩<;>rcases I n' e' a7 with b | ⟨b1,b2⟩
     ·exact hm.one n n' e e' a b K
     ·exact absurd (K.trans b2) (f2 e (Zl a))
     ·exact absurd (K.symm.trans a2) (f2 e' (Zl b))
     ·omega
   ·have hj:es[j]?=some e:=by simpa using f2
    have L:∀n:Nat,(es.modify j λe=>{ e with key:=.int .i64 i,val:=A.eval q }).toList[n]?=if n=j then some { e with key:=.int .i64 i,val:=A.eval q } else es.toList[n]?:=λn=>by
     rw[Array.getElem?_toList,Array.getElem?_modify];by_cases r:n=j
     ·subst r;rw[Zc rfl,Zc rfl,hj];rfl
     ·rw[Zb (λh=>r h.symm),Zb r,Array.getElem?_toList]
    have kk:∀(n:Nat) (e':MapEntry),(es.modify j λe=>{ e with key:=.int .i64 i,val:=A.eval q }).toList[n]?=some e'->∃e0,es.toList[n]?=some e0/\e0.key=e'.key/\(n=j->e'.val=A.eval q)/\(n≠j->e'=e0):=λn e' h=>by
     rw[L] at h;by_cases r:n=j
     ·rw[Zc r] at h;cases h;exact⟨e,by rw[r];exact f2,f3,λ_=>rfl,λh=>(h r).elim⟩
     ·rw[Zb r] at h;exact⟨e',h,rfl,λh=>(r h).elim,λ_=>rfl⟩
    refine⟨es.modify j λe=>{ e with key:=.int .i64 i,val:=A.eval q },c,by simp[Instr.mapUpdate,run_underlying ht,Go.MapKept.run_getObj_map hb,Go.MapKept.run_checkKey W (QiM i),Go.MapKept.run_findKey W f1,hj,f3,run_keyThatStays (QiM i),Go.MapKept.run_setObj_map _ hb,Result.andThen],⟨λe' a0=>?_,λk y a3=>?_,λn n' e1 e2 h1 h2 K=>?_⟩⟩
    ·obtain⟨n,r⟩:=ZT.1 a0;obtain⟨e0,g1,g2,g3,g4⟩:=kk n e' r;obtain⟨k,y,q1,q2,q3⟩:=hm.all e0 (Zl g1);by_cases C:n=j
     ·have:e0=e:=by rw[C,f2] at g1;exact (Zn g1).symm
      subst this;have b8:k=i:=by rw[f3] at q1;simpa using q1.symm
      exact⟨i,u,by rw[<-g2,f3],by rw[Qb3,Zc rfl],by rw[g3 C];exact h3⟩
     ·have hne:k≠i:=λe2=>C (hm.one n j e0 e g1 f2 (by rw[q1,f3,e2]));exact⟨k,y,by rw[<-g2];exact q1,by rw[Qb3,Zb hne];exact q2,by rw[g4 C];exact q3⟩
    ·have old:∀e0∈es.toList,∃e'∈(es.modify j λe=>{ e with key:=.int .i64 i,val:=A.eval q }).toList,e'.key=e0.key:=λe0 a4=>by
      obtain⟨n,r⟩:=ZT.1 a4;by_cases C:n=j
      ·have:e0=e:=by rw[C,f2] at r;exact (Zn r).symm
       subst this;exact⟨_,Zl (by rw[L,Zc C]),f3.symm⟩
      ·exact⟨e0,Zl (i:=n) (by rw[L,Zb C];exact r),rfl⟩
     rw[Qb3] at a3;by_cases e2:k=i
     ·subst e2;obtain⟨e',g1,g2⟩:=old e (Zl f2);exact⟨e',g1,by rw[g2];exact f3⟩
     ·rw[Zb e2] at a3;obtain⟨e0,a4,b4⟩:=hm.has k y a3;obtain⟨e',g1,g2⟩:=old e0 a4;exact⟨e',g1,by rw[g2];exact b4⟩
    ·obtain⟨a1,b1,c1,_⟩:=kk n e1 h1;obtain⟨a2,b2,c2,_⟩:=kk n' e2 h2;exact hm.one n n' a1 a2 b1 b2 (by rw[c1,c2];exact K)
  obtain⟨H,c',a8,b5⟩:=key;have a5:(execOp A.eval (⟨d,.mapUpdate t x y q,ty,pos,af,g⟩:Oper)).run P w=.ok .skip { w with heap:=w.heap.setIfInBounds b (.map H c') }:=by simp only[execOp,h1,h2,Sem.run_bind,a8,Zj,Sem.run_pure]
  simp only[Does,a5];have O:=heap_set (o':=.map H c') hb;have V:Step (QaP [omap R (some l) v]) w { w with heap:=w.heap.setIfInBounds b (.map H c') }:=⟨rfl,rfl,rfl,by simp,λk _ b6=>O.2 k (λe=>b6 (Qac.2 (by rw[e];exact hv)))⟩;refine⟨undef,V,Qbx (λk W=>?_) ?_,trivial⟩
  ·have Z:v=.map (some k):=W;refine⟨.inl (Qac.2 Z),?_⟩;rw[hv] at Z;simp only[Value.map.injEq,ZM] at Z;subst Z;simpa using b0
  ·refine⟨b,H,c',hv,O.1,?_⟩;refine Qkl.keep (λk W=>?_) (λk W=>O.2 k (λe=>?_)) b5
   ·refine Qb1 V.size a6 (λB hB j hj=>?_) W;obtain rfl:=Zg.1 hB;exact .inl (Qac.2 hj)
   ·exact W.2 (a9 b hv |> λh=>by rw[e];exact h)
def Qq9 (h:(omap R m v).ok F w) (H:∀k,F k->F' k) (r:∀k,(omap R m v).fp k->F' k):(tmap R m).ok F' w v:=by
 cases m with
 | none=>exact h
 | some l=>obtain⟨b,es,c,C,I,K⟩:=h;exact⟨b,es,c,C,r b C,I,K.keep H (λ_ _=>rfl)⟩
def QbY.map (h:Fct Γ x (tv v)) (hU:omap R m v∈U):QbY Γ U x (tmap R m):=by intro F F' w a C hA h0;have hv:a.eval x=v:=h F w a h0;obtain⟨c,r⟩:=hA _ hU;rw[hv];exact Qq9 c C r
end
section
variable {M:Fr} {w0 w:World} {n:Nat} {Γ:List (Nat×Ty)} {As:List Atom} {a:Act} {α:Type} {R:Rep α} {m:Mp α} {v:Value}
def St.shareM {s:Nat} (i:Nat) (h:St M w0 n Γ (omap R m v::As) a w) (hi:Γ[i]?=some (s,tv v)):St M w0 n ((s,tmap R m)::Γ) As a w:=by
 have c:=h.sub (sublist_cons_self (omap R m v) As);refine⟨c.size,c.defers,c.grow,c.m0,c.own,c.fresh,c.apart,λp hp=>?_⟩;rcases Zp.1 hp with rfl | hp
 ·have hv:get a s=v:=h.Xp (s,tv v) (Zl hi);show (tmap R m).ok _ _ (get a s);rw[hv];refine Qq9 (h.own (omap R m v) (by simp)) (Qa6 (λk ⟨A,hA,C⟩=>⟨A,by simp[hA],C⟩)) (λk C=>?_);have r:=h.fresh _ (by simp) k C;refine⟨r.2,?_⟩;rintro (hm | ⟨A,hA,H⟩)
  ·have:=h.m0 k hm;rcases r.1 with hb | hb
   ·exact this.2 hb
   ·omega
  ·exact (pairwise_cons.1 h.apart).1 A hA k C H
 ·exact c.Xp p hp
end
end
section
open Go.MapKept
section
variable {α:Type}
abbrev MpS (α:Type):=Option (List (Str×α))
end
section
variable {Γ:List (Nat×Ty)} {P:Program} {d:Option Tmp} {ty:TypeId} {pos:String} {af:Array Edge} {g:Option (Nat×Bool)} {x y q:Operand} {t kt et:TypeId} {α:Type} {R:Rep α} {bytes:Nat} {z:Value} {m:MpS α} {v:Value} {i:Str} {u:α}
end
section
variable {M:Fr} {w0 w:World} {n:Nat} {Γ:List (Nat×Ty)} {As:List Atom} {a:Act} {α:Type} {R:Rep α} {m:MpS α} {v:Value}
end
end
section
variable {α:Type} {R:Rep α} {e:TypeId}
def ownq (R:Rep α) (e:TypeId) (xs:List α) (v:Value):Atom:=
 ⟨λk=>v.ownBlock=some k,λF w=>(v=.slice none 0 0/\xs=[])\/∃b off cap cur,v=.slice (some ⟨b,off,none⟩) xs.length cap/\w.heap[b]?=some (.cells cur e (0,0))/\xs.length<=cap/\cap<=maxLen/\off+cap * R.n<=cur.size/\QW (xs.flatMap R.cs) F w ((cur.toList.drop off).take (xs.length * R.n)),
  by
   intro F F' w w' r C hf h;rcases h with h | ⟨b,off,cap,cur,c,H,I,K,L,O⟩
   ·exact .inl h
   ·exact .inr ⟨b,off,cap,cur,c,by rw[hf b (by rw[c];rfl)];exact H,I,K,L,O.keep r C⟩⟩
def QuG {xs:List α} (h:(own R e xs v).ok F w):(ownq R e xs v).ok F w:=by
 rcases QbB h with⟨hv,hx⟩ | ⟨b,cap,cur,hv,hb,c,r,H,C⟩
 ·exact .inl ⟨hv,hx⟩
 ·exact .inr ⟨b,0,cap,cur,hv,hb,c,r,by omega,by simpa using C⟩
def Qss {xs:List α} (h:(ownq R e xs v).ok F w) (hx:xs≠[]):∃b off cap,v=.slice (some ⟨b,off,none⟩) xs.length cap/\Row (xs.flatMap R.cs) F w b off:=by
 rcases h with⟨_,h⟩ | ⟨b,off,cap,cur,I,K,L,O,V,r⟩
 ·exact (hx h).elim
 ·refine⟨b,off,cap,I,λj T C=>?_⟩;have H:j<((cur.toList.drop off).take (xs.length * R.n)).length:=by rw[r.1];exact (Ze.1 C).1
  refine⟨((cur.toList.drop off).take (xs.length * R.n))[j],?_,r.2 j T _ C (Zd H)⟩;have c:off+j<cur.size:=by simp at H;omega
  simp[World.cell?,K,c]
end
section
variable {Γ:List (Nat×Ty)} {P:Program} {d:Option Tmp} {ty:TypeId} {pos:String} {af:Array Edge} {g:Option (Nat×Bool)} {x y:Operand} {t e e':TypeId} {α:Type} {R:Rep α} {bytes:Nat} {z:Value} {xs ys:List α} {v:Value} {k:IntKind} {i:Int} {u:α}
def QC2 (ht:P.underlying t=some (.slice e)) (hx:Fct Γ x (tv v)):OpJ P ⟨d,.call { callee:=.builtin .len,args:=#[x],argTypes:=#[t] },ty,pos,af,g⟩ Γ [ownq R e' xs v] [] (λ_=>[]) (λ_=>tv (.int .i64 xs.length)):=
 Qb8 λM w a hU r=>by
  have hl:∃c cap,v=.slice c xs.length cap:=by
   rcases hU _ (Zg.2 rfl) with⟨h,C⟩ | ⟨b,off,cap,cur,h,_⟩
   ·exact⟨none,0,by rw[C];exact h⟩
   ·exact⟨_,cap,h⟩
  obtain⟨c,cap,hv⟩:=hl;have:=hx.val (by simp[Op.operands,Call.operands]) r;exact⟨_,by simp[execOp,resolve,invoke,builtin,Builtin.len_,run_underlying ht,this,hv,goInt],rfl⟩
def Qxu (ht:P.underlying t=some (.slice e)) (hz:TOk P e R bytes z) (hx:Fct Γ x (tv v)) (hi:Fct Γ y (tv (.int k i))) (h:idx xs i=some u):
  OpJ P ⟨d,.indexAddr t x y,ty,pos,af,g⟩ Γ [ownq R e' xs v] [] (λ_=>[]) (λ_=>tv (Qbm v (i.toNat * R.n))):=
 Qb8 λM w a hU C=>by
  have hv:=hx.val (by simp[Op.operands]) C;have H:=hi.val (by simp[Op.operands]) C;unfold idx at h;split at h
  ·rename_i h0;have c:i.toNat<xs.length:=(Ze.1 h).1;obtain⟨b,off,cap,r,_⟩:=Qss (hU _ (Zg.2 rfl)) (λe=>by rw[e] at c;simp at c);refine⟨_,?_,rfl⟩;subst r;simp only[execOp,hv,H,Sem.run_bind,Qnc ht hz w rfl h0 (show i<(xs.length:Int) by omega),Zj,Sem.run_pure,Qbm,QaT]
  ·cases h
def QAw (hz:TOk P t R bytes z) (hp:Fct Γ x (tv (Qbm v (i.toNat * R.n)))) (h:idx xs i=some u):OpJ P ⟨d,.load t x,ty,pos,af,g⟩ Γ [ownq R e' xs v] [] (λ_=>[]) (λ_=>R.ty u):=
 Qb8 λM w a hU K=>by
  have hv:=hp.val (by simp[Op.operands]) K;unfold idx at h;split at h
  ·have c:i.toNat<xs.length:=(Ze.1 h).1;obtain⟨b,off,cap,H,r⟩:=Qss (hU _ (Zg.2 rfl)) (λe=>by rw[e] at c;simp at c);subst H;obtain⟨L,C,I⟩:=Qfs hz (r.elem h);exact⟨L,by simp only[execOp,hv,Qbm,QaT,Sem.run_bind,C,Zj,Sem.run_pure],I⟩
  ·cases h
def QAx (ht:P.underlying t=some (.slice e)) (hz:TOk P e R bytes z) (hx:Fct Γ x (tv v)) (hi:Fct Γ y (tv (.int k i))) (h:sub xs i xs.length=some ys):
  OpJ P ⟨d,.slice t x (some y) none none,ty,pos,af,g⟩ Γ [] [ownq R e' xs v] (λr=>[ownq R e' ys r]) (λr=>tv r):=by
 intro M w A hM _ hE _ _ he;obtain⟨ho,a6⟩:=hE _ (Zg.2 rfl);have L:=hx.val (by simp[Op.operands]) he;have O:=hi.val (by simp[Op.operands]) he;obtain⟨c0,c1,c2,hy,hl⟩:=QkS h;obtain⟨ti,V,_,hs,_⟩:=hz.info;have W:i.toNat<=xs.length:=by omega
 have X:ys=xs.drop i.toNat:=by rw[hy];exact Zu (by simp)
 have a0:∀k,(ownq R e' xs v).fp k->k<w.heap.size:=λk c=>by
  rcases ho with⟨hv,_⟩ | ⟨b,off,cap,cur,hv,hb,_⟩
  ·rw[hv] at c;cases c
  ·rw[hv] at c;have:b=k:=by simpa[ownq,Value.ownBlock] using c
   rw[<-this];exact (Array.getElem?_eq_some_iff.1 hb).1
 have key:∃r,(execOp A.eval (⟨d,.slice t x (some y) none none,ty,pos,af,g⟩:Oper)).run P w=.ok (.value r) w/\(∀k,(ownq R e' ys r).fp k->(ownq R e' xs v).fp k)/\(ownq R e' ys r).ok (free M w) w:=by
  rcases ho with⟨hv,Z⟩ | ⟨b,off,cap,cur,hv,hb,h1,h2,h3,h4⟩
  ·have a1:i=0:=by rw[Z] at W;simp at W;omega
   subst hv;subst a1;refine⟨.slice none 0 0,?_,λk c=>c,.inl ⟨rfl,by rw[X,Z];rfl⟩⟩;simp[execOp,Instr.sliceAt,run_underlying ht,Instr.slice,L,O,Instr.sliceBounds,run_sliceBound,sizeOf,typeInfo,V,hs]
  ·subst hv;have C:ys.length=xs.length - i.toNat:=by rw[hl];omega
   have a2:(Instr.sliceBounds true xs.length cap (some (.int k i)) none none).run P w=.ok (i.toNat,xs.length,cap) w:=by simp only[Instr.sliceBounds,Sem.run_bind,Sem.run_pure,Zj,run_sliceBound w k i xs.length _ c0 (by omega)]
   refine⟨.slice (if cap=i.toNat then some ⟨b,off,none⟩ else some ⟨b,off+i.toNat * R.n,none⟩) (xs.length - i.toNat) (cap - i.toNat),?_,?_,?_⟩
   ·simp[execOp,Instr.sliceAt,run_underlying ht,Instr.slice,L,O,a2,sizeOf,typeInfo,V,hs,QaT]
   ·intro k c;by_cases K:cap=i.toNat
    ·rw[Zc K] at c;exact c
    ·rw[Zb K] at c;exact c
   ·by_cases K:cap=i.toNat
    ·rw[Zc K];have:ys=[]:=length_eq_zero_iff.1 (by omega);refine .inr ⟨b,off,cap - i.toNat,cur,by rw[C],hb,by omega,by omega,by rw[K];simp;omega,?_⟩;rw[this];exact⟨by simp,λj T u hT=>by simp at hT⟩
    ·rw[Zb K];have a5:(cap - i.toNat) * R.n+i.toNat * R.n=cap * R.n:=by rw[<-Nat.add_mul];congr 1;omega
     refine .inr ⟨b,off+i.toNat * R.n,cap - i.toNat,cur,by rw[C],hb,by omega,by omega,by omega,?_⟩;have e1:ys.flatMap R.cs=(xs.flatMap R.cs).drop (i.toNat * R.n):=by rw[X];have:=Row.Xs R xs i.toNat (xs.length - i.toNat) (by omega);rw[Zu (by simp)] at this;rw[this,Zu];rw[Yh,QaD,<-Nat.sub_mul];exact Zr _
     rw[e1];have a7:(xs.length - i.toNat) * R.n+i.toNat * R.n=xs.length * R.n:=by rw[<-Nat.add_mul];congr 1;omega
     refine⟨?_,λj T u hT hu=>?_⟩
     ·have:=h4.1;rw[ZU,Yh] at this ⊢;rw[Yh,<-this,C];simp;rw[QaD] at this;omega
     ·rw[getElem?_drop] at hT;refine h4.2 (i.toNat * R.n+j) T u hT ?_;rw[getElem?_take] at hu ⊢;split at hu
      ·rename_i a3;rw[Zc (by rw[C] at a3;omega),getElem?_drop];rw[getElem?_drop] at hu;rw[<-YA];exact hu
      ·cases hu
 obtain⟨r,H,I,a4⟩:=key;simp only[Does,H];refine⟨r,Step.refl _ _,Qbx (λk c=>⟨.inl (Qac.2 (I k c)),a0 k (I k c)⟩) ?_,rfl⟩;refine Atom.keep _ (λk c=>?_) (λ_ _=>rfl) (λ_ _=>rfl) a4;refine Qb1 (Zr _) (Qcy hE) (λB hB j hj=>?_) c;obtain rfl:=Zg.1 hB;exact .inl (Qac.2 (I j hj))
def QmY (b:Nat):∀(vs:List Value) (o:Nat) (w:World) (cur:Array Value),w.heap[b]?=some (.cells cur e (0,0))->o+vs.length<=cur.size->
  ∃c:Array Value,(w.setCells b o vs).heap[b]?=some (.cells c e (0,0))/\c.toList=cur.toList.take o++vs++cur.toList.drop (o+vs.length)/\(∀k,k≠b->(w.setCells b o vs).heap[k]?=w.heap[k]?)/\(w.setCells b o vs).heap.size=w.heap.size/\(w.setCells b o vs).os=w.os/\(w.setCells b o vs).tape=w.tape/\(w.setCells b o vs).output=w.output
 | [],o,w,cur,hb,_=>⟨cur,hb,by simp,λ_ _=>rfl,rfl,rfl,rfl,rfl⟩
 | u::vs,o,w,cur,hb,hl=>by
  rw[Zk] at hl;have C:(w.setCell ⟨b,o,none⟩ u).heap[b]?=some (.cells (cur.setIfInBounds o u) e (0,0)):=by simp[World.setCell,Array.getElem?_modify,hb]
  have H:∀k,k≠b->(w.setCell ⟨b,o,none⟩ u).heap[k]?=w.heap[k]?:=λk r=>by simp[World.setCell,Array.getElem?_modify,Ne.symm r]
  obtain⟨c,g1,g2,g3,I,K,L,O⟩:=QmY b vs (o+1) (w.setCell ⟨b,o,none⟩ u) (cur.setIfInBounds o u) C (by simp;omega);refine⟨c,g1,?_,λk r=>(g3 k r).trans (H k r),I.trans (by simp[World.setCell]),K,L,O⟩;rw[g2,Array.toList_setIfInBounds];have e1:(cur.toList.set o u).take (o+1)=cur.toList.take o++[u]:=by rw[take_add_one,take_set_of_le (Zr _),getElem?_set_self (by simp;omega)];rfl
  have e2:(cur.toList.set o u).drop (o+1+vs.length)=cur.toList.drop (o+(vs.length+1)):=by rw[drop_set_of_lt (by omega)];congr 1;omega
  rw[e1,e2];simp
def Qv4 (ht:P.underlying t=some (.slice e)) (hz:TOk P e R bytes z) (hb:bytes<=2048) (hx:Fct Γ x (tv v)) (hy:Fct Γ y (tsl R ys)) (hne:ys≠[]) (h:rm (xs.length+ys.length)=some ()):
  OpJ P ⟨d,.call { callee:=.builtin .append,args:=#[x,y],argTypes:=#[t,t] },ty,pos,af,g⟩ Γ [] [ownq R e xs v] (λV=>[ownq R e (xs++ys) V]) (λV=>tv V):=by
 intro M w A hM _ hE _ _ he;obtain⟨ho,b8⟩:=hE _ (Zg.2 rfl);have b3:=Qcy hE;have h1:=hx.val (by simp[Op.operands,Call.operands]) he;obtain⟨ad,c,h2,_,hr⟩:=hy.use (by simp[Op.operands,Call.operands]) he;obtain⟨ti,b4,b9,hs,c0⟩:=hz.info;have a4:xs.length+ys.length<=68719476736:=by unfold rm at h;split at h<;>first | assumption | cases h
 have key:∃V w',(Builtin.append_ #[t,t] ty #[v,.slice ad ys.length c]).run P w=.ok V w'/\Step (ownq R e xs v).fp w w'/\(∀k,(ownq R e (xs++ys) V).fp k->((ownq R e xs v).fp k\/w.heap.size<=k)/\k<w'.heap.size)/\(ownq R e (xs++ys) V).ok (λk=>k<w.heap.size/\¬M k) w':=by
  have hF:∀k,free M w k->k<w.heap.size/\¬(ownq R e xs v).fp k:=λk C=>⟨C.1,λhf=>C.2 (b8 k hf)⟩;rcases ho with⟨hv,a5⟩ | ⟨gb,off,cap,cur,hv,W,c1,c2,c3,c4⟩
  ·have c5:(own R e xs v).ok (free M w) w:=⟨[],⟨by rw[a5];simp,.inl ⟨hv,by rw[a5];rfl⟩⟩,by rw[a5];exact .nil⟩;obtain⟨V,w',H,I,K,a6⟩:=Qmi (ty:=ty) (c:=c) (F:=free M w) (F':=λk=>k<w.heap.size/\¬M k) ht hz hb c5 hF (λk C=>C)
    (λhne=>let⟨b,off,ha,_,X⟩:=hr hne;⟨b,off,ha,X⟩) h
   exact⟨V,w',H,I,K,QuG a6⟩
  ·obtain⟨b,O,ha,_,X⟩:=hr hne;subst ha;subst hv;obtain⟨r,Z,a7⟩:=QkM _ _ X;have a0:r.length=ys.length * ti.size:=by rw[Z.1,QaD,hs]
   have a8:∀j u,r[j]?=some u->w.cell? ((⟨b,O,none⟩:Addr).add j)=some u:=λj u hu=>by rw[QaT];exact a7 j u hu
   have b5:∀u∈r,u.oneCell'=true:=by
    intro u hu;obtain⟨j,hj⟩:=ZT.1 hu;have b6:j<(ys.flatMap R.cs).length:=by rw[<-Z.1];exact (Ze.1 hj).1
    have hT:=Z.2 j _ u (Zd b6) hj;obtain⟨q,_,hq⟩:=Yb.1 (Zo b6);exact R.one q _ hq (free M w) w u hT
   have a3:=Src.ofSlice (P:=P) (size:=ti.size) w ht ⟨b,O,none⟩ ys.length c r a0 a8 b5;have hoff:∀k:Nat,(ownq R e xs (.slice (some ⟨gb,off,none⟩) xs.length cap)).fp k↔k=gb:=λk=>by show Value.ownBlock _=some k↔_;simp[Value.ownBlock,eq_comm]
   have g8:xs.length * R.n<=cap * R.n:=Nat.mul_le_mul_right _ c1;by_cases a1:xs.length+ys.length<=cap
   ·have g9:xs.length * R.n+ys.length * R.n<=cap * R.n:=by rw[<-Nat.add_mul];exact Nat.mul_le_mul_right _ a1
    have c9:off+xs.length * ti.size+r.length<=cur.size:=by rw[a0,hs];omega
    have H:=run_append_room_src (P:=P) w t t ty e ti ht b4 gb off xs.length cap (.slice (some ⟨b,O,none⟩) ys.length c) ys.length r a3 a1
     (λj hj=>by
      have:off+xs.length * ti.size+j<cur.size:=by omega
      simp[World.cell?,W,this]) (λj hj=>by simp[World.frozen?,W])
    obtain⟨a2,g1,g2,g3,g4,g5,g6,g7⟩:=QmY gb r (off+xs.length * ti.size) w cur W (by omega);refine⟨_,_,H,⟨g5,g6,g7,by rw[g4];exact Zr _,λk _ C=>g3 k (λe=>C ((hoff k).2 e))⟩,λk C=>?_,.inr ⟨gb,off,cap,a2,by rw[Zf],g1,by rw[Zf];exact a1,c2,?_,?_⟩⟩
    ·have:k=gb:=by
      have a9:Value.ownBlock _=some k:=C;simpa[Value.ownBlock,eq_comm] using a9
     refine⟨.inl ((hoff k).2 this),?_⟩;rw[g4,this];exact (Array.getElem?_eq_some_iff.1 W).1
    ·have:=Ya length g2;simp at this;rw[Array.length_toList] at *;omega
    ·have e1:(a2.toList.drop off).take ((xs++ys).length * R.n)=(cur.toList.drop off).take (xs.length * R.n)++r:=by
      have b0:((cur.toList.drop off).take (xs.length * R.n)).length=xs.length * R.n:=by simp;omega
      have e2:a2.toList.drop off=(cur.toList.drop off).take (xs.length * R.n)++r++cur.toList.drop (off+xs.length * R.n+r.length):=by rw[g2,hs,ZE,drop_append_of_le_length (by simp;omega),<-ZE];congr 2;rw[drop_take];congr 1;omega
      rw[e2];refine take_left' ?_;rw[Zf,b0,a0,hs,Zf,Nat.add_mul]
     rw[e1,ZK];exact (c4.append Z).Xr (λk C=>C) (λk C=>g3 k (λe=>(hF k C).2 ((hoff k).2 e)))
   ·have b7:(xs.length+ys.length) * ti.bytes<=140737488355328:=by
     rw[c0]
     calc (xs.length+ys.length) * bytes<=68719476736 * 2048:=Nat.mul_le_mul a4 hb
      _<=140737488355328:=by omega
    have L:((cur.toList.drop off).take (xs.length * R.n)).length=xs.length * ti.size:=by rw[hs];simp;omega
    have b1:∀j u,((cur.toList.drop off).take (xs.length * R.n))[j]?=some u->w.drew.cell? ((⟨gb,off,none⟩:Addr).add j)=some u:=by
     intro j u hu;rw[getElem?_take] at hu;split at hu
     ·rw[QaT];rw[getElem?_drop] at hu;have:w.cell? ⟨gb,off+j,none⟩=some u:=by simpa[World.cell?,W] using hu
      simpa using this
     ·cases hu
    have hold:=run_firstCells_some (P:=P) w.drew ti.size xs.length ⟨gb,off,none⟩ xs.length cap _ L b1;have H:=run_append_grow_src (P:=P) w t t ty e ti z ht b4 b9 (some ⟨gb,off,none⟩) xs.length cap _ hold (.slice (some ⟨b,O,none⟩) ys.length c) ys.length r a3 (by omega) (by omega) (growslice_fits (by omega) b7);have c6:=grownCap_ge w (xs.length+ys.length) cap e;have c7:=grownCap_le_maxLen w (xs.length+ys.length) cap e (by unfold maxLen;omega);refine⟨_,_,H,⟨rfl,rfl,rfl,by simp,λk C _=>Go.RowKit.Below.heap_alloc w.drew _ k C⟩,λk C=>?_,.inr ⟨w.heap.size,0,_,_,by rw[Zf],heap_alloc_new w.drew _,by rw[Zf];exact c6,c7,?_,?_⟩⟩
    ·have a9:Value.ownBlock _=some k:=C;have:w.heap.size=k:=by simpa[Value.ownBlock] using a9
     subst this;exact⟨.inr (Zr _),by simp⟩
    ·have c8:z.cells.size=R.n:=hz.zc;simp only[Array.size_append,size_toArray,size_zeroCells,Zf,L,a0,c8,hs,<-Nat.add_mul,Nat.zero_add];refine Nat.le_of_eq ?_;congr 1;omega
    ·have e1:((((cur.toList.drop off).take (xs.length * R.n)++r).toArray++Builtin.zeroCells z.cells (grownCap w (xs.length+ys.length) cap e - (xs.length+ys.length))).toList.drop 0).take ((xs++ys).length * R.n)=(cur.toList.drop off).take (xs.length * R.n)++r:=by
      rw[drop_zero,Array.toList_append];refine take_left' ?_;rw[Zf,L,a0,hs,Zf,Nat.add_mul]
     rw[e1,ZK];exact (c4.append Z).Xr (λk C=>C) (λk C=>Go.RowKit.Below.heap_alloc w.drew _ k (hF k C).1)
 obtain⟨V,w',H,I,K,a6⟩:=key;have b2:(execOp A.eval (⟨d,.call { callee:=.builtin .append,args:=#[x,y],argTypes:=#[t,t] },ty,pos,af,g⟩:Oper)).run P w=.ok (.value V) w':=by simp only[execOp,resolve,invoke,builtin,Sem.run_bind,Sem.run_pure,Zj,map_toArray,Yn,Yv,h1,h2,H]
 simp only[Does,b2];refine⟨V,I.mono (λk C=>Qac.2 C),Qbx (λk C=>⟨(K k C).1.imp Qac.2 id,(K k C).2⟩) ?_,rfl⟩;refine Atom.keep _ (λk C=>?_) (λ_ _=>rfl) (λ_ _=>rfl) a6;refine Qb1 I.size b3 (λB hB j hj=>?_) C;obtain rfl:=Zg.1 hB;exact (K j hj).1.imp Qac.2 id
end
section
variable {Γ:List (Nat×Ty)} {x:Operand} {e:TypeId} {α:Type} {R:Rep α} {xs:List α} {v q:Value} {Ts:List Ty}
def QbY.boxP (k:Nat) (h:Fct Γ x (tv q)) (hU:Sim.box Ts q∈U) (V:Sim.own R e xs v∈U) (W:Ts[k]?=some (tvs v)):QbY Γ U x (tptr (Ts.set k (tsl R xs))):=by
 intro F F' w a L hA h0;have hv:a.eval x=q:=h F w a h0;obtain⟨C,H⟩:=hA _ hU;rw[hv];obtain⟨b,off,e1,e2,O⟩:=QkO C L H;refine⟨b,off,e1,e2,λj T c=>?_⟩;rw[getElem?_set] at c;split at c
 ·rename_i X;subst X;split at c
  ·cases c;obtain⟨u,hu,I⟩:=O k (tvs v) W;have K:u=v:=I.1;subst K;exact⟨u,hu,QbY.own (x:=.tmp 0) (Γ:=[(0,tv u)]) (U:=[Sim.own R e xs u]) (R:=R) (e:=e) (xs:=xs) (v:=u) (Fct.t 0 rfl) (by simp) F F' w ⟨#[u],[]⟩ L (λA r=>by simp at r;subst r;exact hA _ V) (λp hp _=>by simp at hp;subst hp;rfl)⟩
  ·cases c
 ·exact O j T c
end
section
variable {M:Fr} {w0 w:World} {n:Nat} {Γ:List (Nat×Ty)} {As:List Atom} {a:Act} {α:Type} {R:Rep α} {e:TypeId} {xs:List α} {v:Value}
def St.toQ (h:St M w0 n Γ (Sim.own R e xs v::As) a w):St M w0 n Γ (ownq R e xs v::As) a w:=by
 have r:fps (ownq R e xs v::As)=fps (Sim.own R e xs v::As):=by
  funext j
  unfold fps;simp only[Zp,exists_eq_or_imp];rfl
 have e2:hold M.m (ownq R e xs v::As)=hold M.m (Sim.own R e xs v::As):=by unfold hold;rw[r]
 refine⟨h.size,h.defers,h.grow,h.m0,λZ c=>?_,λZ c=>?_,?_,by rw[e2];exact h.Xp⟩
 ·rw[e2];rcases Zp.1 c with rfl | c
  ·exact QuG (h.own _ (by simp))
  ·exact h.own Z (by simp[c])
 ·rcases Zp.1 c with rfl | c
  ·exact h.fresh (Sim.own R e xs v) (by simp)
  ·exact h.fresh Z (by simp[c])
 ·have ha:=h.apart;unfold QcR at ha ⊢;rw[pairwise_cons] at ha ⊢;exact⟨λZ c k C=>ha.1 Z c k C,ha.2⟩
end
def Qxv (P:Program) (s:TypeId) (f off:Nat):Prop:=∃c fd r,P.underlying s=some (.struct c)/\c[f]?=some fd/\fd.offset=off/\P.underlying fd.type=some r/\Qna r=false
def QAy {P:Program} {t:TypeId} {c:TypeDesc} (h:P.underlying t=some c) (r:Qna c=false):(isAgg t).run P w=.ok false w:=by
 cases c with
 | struct=>cases r
 | array=>cases r
 | _=>simp[isAgg,run_underlying h]
section
variable {Γ:List (Nat×Ty)} {P:Program} {d:Option Tmp} {ty:TypeId} {pos:String} {af:Array Edge} {g:Option (Nat×Bool)} {x y:Operand} {t:TypeId} {bytes:Nat} {z:Value}
def Qxw {s:TypeId} {f off:Nat} {T:Ty} (hf:Qxv P s f off) (hx:Fct Γ x (tagg Ts)) (c:Ts[off]?=some T):OpJ P ⟨d,.field s x f,ty,pos,af,g⟩ Γ [] [] (λ_=>[]) (λ_=>T):=
 QaH λF w a C=>by
  obtain⟨V,fd,W,H,I,K,L,O⟩:=hf;obtain⟨cs,hv,r⟩:=hx.use (by simp[Op.operands]) C;have hl:off<cs.length:=by rw[r.1];exact (Ze.1 c).1
  refine⟨cs[off],?_,r.2 off T _ c (by simp[hl])⟩;simp[execOp,hv,Instr.field,run_underlying H,I,K,part,QAy L O,asAgg,hl]
def Qra {q v0 c:Value} (hz:TOk P t rVal bytes z) (hp:Fct Γ x (tv c)) (hy:Fct Γ y (tv q)):
  OpJ P ⟨d,.store t x y,ty,pos,af,g⟩ Γ [box Ts q] [box [tvs v0] c] (λ_=>[box [tvs q] c]) (λ_=>tany):=
 .say (A:=box Ts q) (by simp) (λ_ _ h=>Qxt h) λr=>(Qay (R:=rVal) (a:=q) (Ts:=[tvs v0]) hz hp (hy.Xo λ_ _ _ h=>⟨h,r⟩) (Zr _)).Xq (λA hA=>by cases hA)
def zokPf:∀F w,(rVal.ty .nilFunc).ok F w .nilFunc:=λ_ _=>⟨rfl,rfl⟩
def zokP:∀F w,(rVal.ty (.pointer none)).ok F w (.pointer none):=λ_ _=>⟨rfl,rfl⟩
end
def QoV {m:Mp α} (h:∀x,Qhg (R.ty x)):QjH (omap R m v):=λF F' w C=>by
 cases m with
 | none=>exact C
 | some l=>obtain⟨b,es,c,H,I,r⟩:=C;exact⟨b,es,c,H,I,λe K=>let⟨i,x,a1,a2,a3⟩:=r.all e K;⟨i,x,a1,a2,h x F F' w _ a3⟩,r.has,r.one⟩
def flatN2 (h:QjH A) (r:QjH B):∀C∈[A,B],QjH C:=λC c=>by
 rcases Zp.1 c with rfl | c
 ·exact h
 ·obtain rfl:=Zg.1 c;exact r
section
variable {Γ:List (Nat×Ty)} {P:Program} {d:Option Tmp} {ty:TypeId} {pos:String} {af:Array Edge} {g:Option (Nat×Bool)} {x:Operand} {t kt et:TypeId} {α:Type} {R:Rep α} {m:Mp α} {v:Value}
def Qxx {t2:TypeId} (ht:P.underlying t=some (.map kt et)) (hx:Fct Γ x (tv v)):OpJ P ⟨d,.binOp .eql t x (.const (.map none)) t2,ty,pos,af,g⟩ Γ [omap R m v] [] (λ_=>[]) (λ_=>tv (.bool m.isNone)):=
 Qb8 λM w a hU r=>by
  have c:=hx.val (by simp[Op.operands]) r;have h:(omap R m v).ok (free M w) w:=hU _ (Zg.2 rfl);have hv:∃b:Option Nat,v=.map b/\b.isNone=m.isNone:=by
   cases m with
   | none=>exact⟨none,h,rfl⟩
   | some l=>obtain⟨b,_,_,c,_⟩:=h;exact⟨some b,c,rfl⟩
  obtain⟨b,hv,hb⟩:=hv;subst hv;refine⟨.bool b.isNone,?_,by rw[hb];rfl⟩;simp[execOp,c,QhT,eqGuard,binOp,run_equal_map_nil w t kt et b ht]
end
section
variable {M:Fr} {w0 w:World} {n:Nat} {Γ:List (Nat×Ty)} {As:List Atom} {a:Act}
def St.nilM (R:Rep α) (h:St M w0 n Γ As a w):St M w0 n Γ (omap R none (.map none)::As) a w:=by
 have hf:∀k,fps (omap R none (.map none)::As) k->fps As k:=by
  rintro k ⟨A,hA,c⟩;rcases Zp.1 hA with rfl | hA
  ·cases c
  ·exact⟨A,hA,c⟩
 refine⟨h.size,h.defers,h.grow,h.m0,?_,?_,?_,λp hp=>p.2.keep (Qa6 hf) (λ_ _=>rfl) (h.Xp p hp)⟩
 ·intro A hA;rcases Zp.1 hA with rfl | hA
  ·rfl
  ·exact A.keep (Qa6 hf) (λ_ _=>rfl) (λ_ _=>rfl) (h.own A hA)
 ·intro A hA k c;rcases Zp.1 hA with rfl | hA
  ·cases c
  ·exact h.fresh A hA k c
 ·refine pairwise_cons.2 ⟨λB _ k c=>?_,h.apart⟩;cases c
end
def QbG (As:List Atom):Atom:=⟨fps As,λF w=>(∀A∈As,A.ok F w)/\QcR As,λc r hf h=>⟨λA hA=>A.keep c r (λk C=>hf k ⟨A,hA,C⟩) (h.1 A hA),h.2⟩⟩
def Qix:QaP [QbG E]=QaP E:=by
 funext k
 exact propext ⟨λ⟨A,hA,c⟩=>by obtain rfl:=Zg.1 hA;exact c,λh=>⟨_,Zg.2 rfl,h⟩⟩
def Qnj {N:List Atom}:next M [QbG E] [QbG N]=next M E N:=by unfold next;rw[Qix,Qix]
def Qv5 (h:Qgn M E w) (c:QcR E):Qgn M [QbG E] w:=λA hA=>by obtain rfl:=Zg.1 hA;exact⟨⟨λB r=>(h B r).1,c⟩,λk ⟨B,r,C⟩=>(h B r).2 k C⟩
def QmZ (h:Qgn M [QbG E] w):Qgn M E w/\QcR E:=
 have:=h _ (Zg.2 rfl)
 ⟨λA hA=>⟨this.1.1 A hA,λk c=>this.2 k ⟨A,hA,c⟩⟩,this.1.2⟩
def Qrb {N:List Atom} (h:Made M E N w w'):Made M [QbG E] [QbG N] w w':=
 ⟨pairwise_singleton _ _,λA hA k c=>by
  obtain rfl:=Zg.1 hA;obtain⟨B,r,c⟩:=c;rw[Qix];exact h.place B r k c,λA hA=>by
  obtain rfl:=Zg.1 hA;rw[Qnj];exact⟨h.ok,h.apart⟩⟩
def Qst {N:List Atom} (h:Made M [QbG E] [QbG N] w w'):Made M E N w w':=by have c:=h.ok _ (Zg.2 rfl);rw[Qnj] at c;exact⟨c.2,λA hA k r=>by have:=h.place _ (Zg.2 rfl) k ⟨A,hA,r⟩;rwa [Qix] at this,c.1⟩
section
variable {P:Program} {M:Fr} {M0:Blk} {w0:World} {n:Nat} {Γ:List (Nat×Ty)} {As:List Atom} {a:Act} {w:World}
def FnOk.unjoin {f:FuncId} (h:FnOk P f Ts [QbG E] (λx=>[QbG (N x)]) T):FnOk P f Ts E N T:=λM w vs r C c H=>Calls.mono (h M w vs r (Qv5 C c) (pairwise_singleton _ _) H) (λe w' ⟨x,v,I,K,hm,ht⟩=>⟨x,v,I,by rwa [Qix] at K,Qst hm,by rwa [Qnj] at ht⟩)
def RB (E:List Atom) (M0:Blk) (b:Bool) (N:Value->List Atom) (w:World):Ending->World->Prop:=λe w'=>∃x,e=.returned (.bool b)/\Step (QaP E) w w'/\Made M0 E (N x) w w'
inductive QpD:Code->Exit->Prop where
 | ret:QpD .ret .ret
 | exit (id:Nat):QpD (.exit id) (.exit id)
def Qv6 {l:Nat} {r:FuncId} {D:Nat} (x:Value) (is:List Nat) (C:Qcz M0 E M) (c:St M w0 n Γ (QeC l { QcJ r tmps ps assign body D with state:=.busy } Γl::As) a w) (H:Qcb is=true) (I:is.filterMap (λi=>(QeC l (QcJ r tmps ps assign body D) Γl::As)[i]?)=N x):roundPost P l (RB E M0 true N w0) .normal a w:=
 ⟨_,_,run_endRound none (c.own _ (Zq ..)).1,x,rfl,Qqz is C (c.putL (QcJ r tmps ps assign body D) rfl) H I⟩
def Qt8 {l:Nat} {C:FuncId} {D:Nat} {jump:Code} {jx:Exit} (K:QpD jump jx) (x:Value) (is:List Nat) (r:Qcz M0 E M) (c:St M w0 n Γ (QeC l { QcJ C tmps ps assign body D with state:=.busy } Γl::As) a w) (H:Qcb is=true) (I:is.filterMap (λi=>(QeC l { QcJ C tmps ps assign body D with state:=.done,pending:=some jump } Γl::As)[i]?)=N x):roundPost P l (RB E M0 false N w0) jx a w:=by
 cases K with
 | ret=>exact⟨_,_,run_endRound (some .ret) (c.own _ (Zq ..)).1,x,rfl,Qqz is r (c.putL { QcJ C tmps ps assign body D with state:=.done,pending:=some .ret } rfl) H I⟩
 | exit id=>exact⟨_,_,run_endRound (some (.exit id)) (c.own _ (Zq ..)).1,x,rfl,Qqz is r (c.putL { QcJ C tmps ps assign body D with state:=.done,pending:=some (.exit id) } rfl) H I⟩
section
variable {S:Type} {A:S->Value->List Atom} {k:IntKind} {p:Tmp} {assign body:Code} {jump:Code} {jx:Exit} {Y:S->Int->Option (S⊕S)} {s0:S} {g0:Value} {t:S⊕S} {f1:FuncId} {Tc:List Ty} {g:Operand}
def recW (A:S->Value->List Atom) (l:Nat) (r:Loop) (jump:Code) (Γ:List (Nat×Ty)):S⊕S->Value->List Atom
 | .inl s,x=>QeC l r Γ::A s x
 | .inr s,x=>QeC l { r with state:=.done,pending:=some jump } Γ::A s x
end
section
variable {l m:Nat} {F:Fence} {Q:Exit->Act->World->Prop}
def Qxy {id:Nat} {c:Code} (h:c.wpIn F m P (Exit.inBlock id Q) a w):(Code.block id c).wpIn F m P Q a w:=wpIn_block h
def QuH {l:Nat} {id:Nat} (hm:P.follows .mixedOrders=true) (r:List Ver) (H:St M w0 n Γ As a w) (C:∀new,Run P ops (verA As r) new 0 Γ ops is) (c:(QuF ops&&chk ops is ((verA As r).map (·.ds)) (Γ.map (·.1)) As.length (verA As r).length n)=true) (K:∀new I w',St M w0 n (outG ops is Γ new) (Qfp (verA As r) is new) I w'->Q .normal I w'):(Code.region id ops.toArray draw).wpIn (Fence.wide.inRound l) 0 P Q a w:=
 wp_rgR hm (by have:=c;simp only[Zi] at this;exact this.1) r H C (by have:=c;simp only[Zi] at this;exact this.2) K
end
def Qv7 {c:Func} {rs:List ResultVar} {D:Nat} (x:Value) (is:List Nat) (r:QlX M0 E D M) (C:St M w0 n Γ (objA D defO::As) a w) (H:c.results=rs.toArray) (h:QeA P Γ (objA D (.deferred none)::As) rs Ts) (I:Qcb is=true) (K:is.filterMap (λi=>(objA D (.deferred none)::As)[i]?)=N x) (L:T x=Qki Ts):RetM P c M0 E w0 N T .ret a w:=show RetM P c M0 E w0 N T .normal a w from Qxs x is r C H h I K L
end
section
variable {α:Type} {R:Rep α} {e:TypeId} {xs ys zs:List α} {v:Value}
section
variable {P:Program} {o:Oper} {Γ:List (Nat×Ty)} {U E:List Atom} {N:Value->List Atom} {T:Value->Ty}
end
section
variable {Γ:List (Nat×Ty)} {P:Program} {d:Option Tmp} {ty:TypeId} {pos:String} {af:Array Edge} {g:Option (Nat×Bool)} {x:Operand} {t e':TypeId}
end
section
variable {M:Fr} {w0:World} {n:Nat} {Γ:List (Nat×Ty)} {A B:Atom} {As:List Atom} {a:Act} {w:World}
def St.reA (r:B.fp=A.fp) (C:∀F w,A.ok F w->B.ok F w) (h:St M w0 n Γ (A::As) a w):St M w0 n Γ (B::As) a w:=by
 have e:fps (B::As)=fps (A::As):=by funext j;unfold fps;simp[r]
 have e2:hold M.m (B::As)=hold M.m (A::As):=by unfold hold;rw[e]
 refine⟨h.size,h.defers,h.grow,h.m0,?_,?_,?_,by rw[e2];exact h.Xp⟩
 ·rw[e2];intro Z c;rcases Zp.1 c with rfl | c
  ·exact C _ _ (h.own A (by simp))
  ·exact h.own Z (by simp[c])
 ·intro Z c;rcases Zp.1 c with rfl | c
  ·rw[r];exact h.fresh A (by simp)
  ·exact h.fresh Z (by simp[c])
 ·have ha:=h.apart;unfold QcR at ha ⊢;rw[pairwise_cons] at ha ⊢;refine⟨λZ c=>?_,ha.2⟩;rw[r];exact ha.1 Z c
end
end
section
variable {Γ:List (Nat×Ty)} {P:Program} {d:Option Tmp} {ty:TypeId} {pos:String} {af:Array Edge} {g:Option (Nat×Bool)} {x y:Operand} {t t2 e:TypeId} {α:Type} {R:Rep α} {bytes:Nat} {z:Value} {v:Value}
end
section
variable {M:Fr} {w0 w:World} {n:Nat} {Γ:List (Nat×Ty)} {As:List Atom} {a:Act}
def St.swapA (h:St M w0 n Γ (A::As) a w) (r:∀k,B.fp k->A.fp k) (H:∀F,(∀k,free (hold M.m (A::As)) w k->F k)->A.ok (free (hold M.m (A::As)) w) w->B.ok F w):St M w0 n Γ (B::As) a w:=by
 have hf:∀j,fps (B::As) j->fps (A::As) j:=by
  rintro j ⟨Z,c,I⟩;rcases Zp.1 c with rfl | c
  ·exact⟨A,by simp,r j I⟩
  ·exact⟨Z,by simp[c],I⟩
 refine⟨h.size,h.defers,h.grow,h.m0,?_,?_,?_,λp hp=>p.2.keep (Qa6 hf) (λ_ _=>rfl) (h.Xp p hp)⟩
 ·intro Z c;rcases Zp.1 c with rfl | c
  ·exact H _ (Qa6 hf) (h.own A (by simp))
  ·exact Z.keep (Qa6 hf) (λ_ _=>rfl) (λ_ _=>rfl) (h.own Z (by simp[c]))
 ·intro Z c k C;rcases Zp.1 c with rfl | c
  ·exact h.fresh A (by simp) k (r k C)
  ·exact h.fresh Z (by simp[c]) k C
 ·have ha:=pairwise_cons.1 h.apart;exact pairwise_cons.2 ⟨λZ c k C=>ha.1 Z c k (r k C),ha.2⟩
end
section
variable {Γ:List (Nat×Ty)} {P:Program} {d:Option Tmp} {ty:TypeId} {pos:String} {af:Array Edge} {g:Option (Nat×Bool)} {x y:Operand} {t:TypeId} {bytes:Nat} {z:Value} {α:Type} {R:Rep α} {m:MpS α}
end
section
variable {Γ:List (Nat×Ty)} {P:Program} {d:Option Tmp} {ty:TypeId} {pos:String} {af:Array Edge} {g:Option (Nat×Bool)} {x y:Operand} {t:TypeId} {bytes:Nat} {z:Value} {α β:Type} {R:Rep α} {R2:Rep β} {k:Nat} {e:TypeId} {v q:Value} {i:Int} {u:α} {o:Option Value} {xs zs:List (α×Option Value)}
end
section
variable {M:Fr} {w0:World} {n:Nat} {Γ:List (Nat×Ty)} {As l:List Atom} {a:Act} {w:World}
def QAz:fps (QbG l::As)=fps (l++As):=by
 funext k
 apply propext;constructor
 ·rintro ⟨A,hA,c⟩;rcases Zp.1 hA with rfl | hA
  ·obtain⟨B,r,c⟩:=c;exact⟨B,mem_append_left _ r,c⟩
  ·exact⟨A,mem_append_right _ hA,c⟩
 ·rintro ⟨A,hA,c⟩;rcases ZB.1 hA with hA | hA
  ·exact⟨QbG l,by simp,A,hA,c⟩
  ·exact⟨A,Zz _ hA,c⟩
def Qrc {m:Blk}:hold m (QbG l::As)=hold m (l++As):=by unfold hold;rw[QAz]
def St.unjoin (h:St M w0 n Γ (QbG l::As) a w):St M w0 n Γ (l++As) a w:=by
 have H:=h.own (QbG l) (by simp);have c:=pairwise_cons.1 h.apart;have I:hold M.m (QbG l::As)=hold M.m (l++As):=Qrc;refine⟨h.size,h.defers,h.grow,h.m0,?_,?_,?_,by rw[<-I];exact h.Xp⟩
 ·rw[<-I];intro A hA;rcases ZB.1 hA with hA | hA
  ·exact H.1 A hA
  ·exact h.own A (Zz _ hA)
 ·intro A hA k r;rcases ZB.1 hA with hA | hA
  ·exact h.fresh (QbG l) (by simp) k ⟨A,hA,r⟩
  ·exact h.fresh A (Zz _ hA) k r
 ·exact pairwise_append.2 ⟨H.2,c.2,λA hA B K k r C=>c.1 B K k ⟨A,hA,r⟩ C⟩
def St.join (h:St M w0 n Γ (l++As) a w):St M w0 n Γ (QbG l::As) a w:=by
 obtain⟨I,K,L⟩:=pairwise_append.1 h.apart;have H:hold M.m (QbG l::As)=hold M.m (l++As):=Qrc;refine⟨h.size,h.defers,h.grow,h.m0,?_,?_,?_,by rw[H];exact h.Xp⟩
 ·rw[H];intro A hA;rcases Zp.1 hA with rfl | hA
  ·exact⟨λB r=>h.own B (mem_append_left _ r),I⟩
  ·exact h.own A (mem_append_right _ hA)
 ·intro A hA k c;rcases Zp.1 hA with rfl | hA
  ·obtain⟨B,r,c⟩:=c;exact h.fresh B (mem_append_left _ r) k c
  ·exact h.fresh A (mem_append_right _ hA) k c
 ·refine pairwise_cons.2 ⟨λB r k c C=>?_,K⟩;obtain⟨A,hA,c⟩:=c;exact L A hA B r k c C
def St.give (h:St M w0 n Γ (A::QbG (l1++l2)::As) a w):St M w0 n Γ (QbG (l1++A::l2)::As) a w:=by have c:St M w0 n Γ (QbG (l1++l2)::A::As) a w:=h.perm (Perm.swap _ _ _);have r:=c.unjoin;refine St.join (r.perm ?_);rw[ZE,ZE];exact Perm.append_left _ (perm_middle (l₁:=l2) (l₂:=As) (a:=A))
end
section
variable {M:Fr} {w0:World} {n:Nat} {Γ:List (Nat×Ty)} {As:List Atom} {a:Act} {w:World} {α β:Type} {R:Rep α} {R2:Rep β} {k:Nat} {e e2:TypeId} {v q:Value} {i:Int} {u:α} {ys:List β} {xs:List (α×Option Value)}
def St.split (h:St M w0 n Γ (QbG (l1++l2)::As) a w):St M w0 n Γ (QbG l1::QbG l2::As) a w:=by have c:=h.unjoin;rw[ZE] at c;have r:=St.join c;have C:St M w0 n Γ (l2++QbG l1::As) a w:=r.perm perm_middle.symm;exact (St.join C).perm (Perm.swap _ _ _)
end
def non {i:α}:(none:Option α)≠some i:=λh=>by cases h
def dh:Value->Value | .agg a=>a.getD 0 nilV | v=>v
def ds (g:Value) (i:Nat):Value:=match g with | .agg a=>a.getD (i+1) nilV | _=>nilV
def dmk (h:Value) (l:List Value):Value:=.agg (h::l).toArray
def dset (n:Nat) (g:Value) (i:Nat) (x:Value):Value:=dmk (dh g) ((range n).map λj=>if j=i then x else ds g j)
def Qec (n:Nat) (g:Value) (h x:Value):Value:=dmk h ((range n).map (ds g)++[x])
def Qn4 {l:List Value}:dh (dmk h l)=h:=by simp[dmk,dh]
def Qlg {l:List Value}:ds (dmk h l) i=l.getD i nilV:=by simp[dmk,ds,Array.getD_eq_getD_getElem?,Zh]
def QkV {n:Nat} {g:Value} {x:Value}:dh (dset n g i x)=dh g:=Qn4
def QkW {n:Nat} {g:Value} {x:Value} (h:j<n):ds (dset n g i x) j=if j=i then x else ds g j:=by unfold dset;rw[Qlg,Zh,Ye,getElem?_range h];rfl
def Qn5 {n:Nat} {g:Value} {x:Value} (h:i<n):ds (dset n g i x) i=x:=by rw[QkW h,Zc rfl]
def Qjq {n:Nat} {g x:Value} (c:j<n):ds (Qec n g h x) j=ds g j:=by unfold Qec;rw[Qlg,Zh,Zv (by simpa using c),Ye,getElem?_range c];rfl
def QlY {n:Nat} {g x:Value}:ds (Qec n g h x) n=x:=by unfold Qec;rw[Qlg,Zh,Zy (by simp)];simp
structure DRep (α:Type) where
 S:Rep α
 cs:α->Value->List Ty
 lo:α->Value->Atom
 len:∀x g,(cs x g).length=S.n
 one:∀x g T,T∈cs x g->∀F w v,T.ok F w v->v.oneCell'=true
 cl:∀{x:α} {g:Value} {F F':Blk} {w:World},(∀k,F k->F' k)->(lo x g).ok F w->(∀k,(lo x g).fp k->F' k)->∀(i:Nat) (T T':Ty),(cs x g)[i]?=some T->(S.cs x)[i]?=some T'->∀u,T.ok F w u->T'.ok F' w u
variable {D:DRep α}
@[reducible] def drep (D : DRep α): Rep (α × Value) := ⟨λp => D.cs p.1 p.2,D.S.n,D.S.agg,λp => D.len p.1 p.2,λp => D.one p.1 p.2,D.S.sz⟩
def zg (xs:List α) (g:Value):List (α×Value):=xs.zipIdx.map λp=>(p.1,ds g p.2)
section
variable {α:Type} {xs ys:List α} {g g':Value} {i:Int} {x y:α}
def Qdc:(zg xs g).length=xs.length:=by simp[zg]
def Qhp:(zg xs g)[j]?=(xs[j]?).map λx=>(x,ds g j):=by simp only[zg,Ye,getElem?_zipIdx,Option.map_map,Nat.zero_add];rfl
def Qsu (h:idx xs i=some x):idx (zg xs g) i=some (x,ds g i.toNat):=by obtain⟨h0,_,c⟩:=Qft h;unfold idx;rw[Zc h0,Qhp,c];rfl
def Qlh (h:setAt xs i y=some ys):0<=i/\i.toNat<xs.length/\ys=xs.set i.toNat y:=by
 unfold setAt at h;split at h
 ·rename_i c;exact⟨c.1,by omega,(Zn h).symm⟩
 ·cases h
def zg_set (r:setAt xs i y=some ys) (C:∀j,j<xs.length->j≠i.toNat->ds g' j=ds g j):setAt (zg xs g) i (y,ds g' i.toNat)=some (zg ys g'):=by
 obtain⟨h0,H,rfl⟩:=Qlh r;unfold setAt;rw[Zc ⟨h0,by rw[Qdc];omega⟩];congr 1;apply ext_getElem?;intro j;rw[getElem?_set,Qhp (xs:=xs.set i.toNat y),getElem?_set,Qdc];by_cases c:i.toNat=j
 ·subst c;simp[H]
 ·rw[Zb c,Zb c,Qhp]
  cases hx:xs[j]? with
  | none=>rfl
  | some u=>simp[C j (Ze.1 hx).1 (λe=>c e.symm)]
def Qn6 (h:(xs++[y])[j]?=some x):(xs[j]?=some x/\j<xs.length)\/(j=xs.length/\x=y):=by
 rcases Nat.lt_trichotomy j xs.length with c | c | c
 ·rw[Zv c] at h;exact .inl ⟨h,c⟩
 ·subst c;rw[Zy (Zr _),Nat.sub_self] at h;exact .inr ⟨rfl,(Zn h).symm⟩
 ·rw[getElem?_eq_none (by simp;omega)] at h;cases h
def Qrd (v:Value) (m:Nat):padd (Qbm v m) 0=Qbm v m:=by unfold Qbm padd;split<;>rename_i h<;>split at h<;>simp_all[Addr.add]
def QC3:zg (xs++[y]) (Qec xs.length g v gy)=zg xs g++[(y,gy)]:=by
 apply ext_getElem?;intro j;rw[Qhp];rcases Nat.lt_trichotomy j xs.length with h | h | h
 ·rw[Zv h,Zv (by rw[Qdc];exact h),Qhp,Qjq h]
 ·subst h;rw[Zy (Zr _),Zy (by rw[Qdc];exact Zr _),Qdc,QlY];simp
 ·rw[getElem?_eq_none (by simp;omega),getElem?_eq_none (by simp[Qdc];omega)];rfl
end
def QbQ (D:DRep α) (e:TypeId) (xs:List α) (g:Value) (o:Option Nat):Atom:=
 ⟨λk=>(dh g).ownBlock=some k\/∃i x,o≠some i/\xs[i]?=some x/\(D.lo x (ds g i)).fp k,
  λF w=>(own (drep D) e (zg xs g) (dh g)).ok F w/\(∀i x,o≠some i->xs[i]?=some x->(D.lo x (ds g i)).ok F w/\∀k,(D.lo x (ds g i)).fp k->¬(dh g).ownBlock=some k)/\∀i j x y,i≠j->o≠some i->o≠some j->xs[i]?=some x->xs[j]?=some y->∀k,(D.lo x (ds g i)).fp k->¬(D.lo y (ds g j)).fp k,
  λC H hf ⟨K,I,L⟩=>⟨Atom.keep _ C H (λk c=>hf k (.inl c)) K,λi x r hx=>⟨Atom.keep _ C H (λk c=>hf k (.inr ⟨i,x,r,hx,c⟩)) (I i x r hx).1,(I i x r hx).2⟩,L⟩⟩
abbrev deep {α:Type} (D:DRep α) (e:TypeId) (xs:List α) (g:Value):Atom:=QbQ D e xs g none
structure Part (A B:Atom):Prop where
 ok:∀F w,B.ok F w->A.ok F w
 sub:∀k,A.fp k->B.fp k
def Part.refl:Part A A:=⟨λ_ _ h=>h,λ_ h=>h⟩
def Qmk.refl {A':Atom} (h:∀k,A'.fp k↔A.fp k):Qmk A A' A A':=⟨λ_ _ h=>h,λ_ h=>h,h,h,λ_ _ _ _ h=>h⟩
section
variable {P:Program} {o:Oper} {Γ:List (Nat×Ty)} {U:List Atom} {T:Value->Ty} {E:List Atom} {N:Value->List Atom}
def OpJ.part (p:Part A B) (h:OpJ P o Γ (A::U) E N T):OpJ P o Γ (B::U) E N T:=h.Xt p.ok p.sub
def OpJ.over {A' Z:Value->Atom} (a0:∀F w,(∀C∈E,C.ok F w)->QcR E->A.ok F w) (c:∀k,A.fp k->QaP E k) (I:∀{F w},(∀C∈E,C.ok F w)->QcR E->∀x k,(Z x).fp k->(A' x).fp k\/QaP E k/\¬A.fp k) (W:∀{x:Value} {F F':Blk} {w w':World},(∀C∈E,C.ok F w)->QcR E->(∀k,F k->F' k)->(∀k,F k->w'.heap[k]?=w.heap[k]?)->(∀k,QaP E k->¬A.fp k->w'.heap[k]?=w.heap[k]?)->(∀k,(A' x).fp k->QaP E k->A.fp k)->(A' x).ok F' w'->(Z x).ok F' w') (h:OpJ P o Γ U [A] (λx=>[A' x]) T):OpJ P o Γ U E (λx=>[Z x]) T:=by
 intro M w a hM hU hE X a1 he;have H:=Qcy hE;have I:=I (λC L=>(hE C L).1) X;have hA:Qgn M [A] w:=λC L=>by obtain rfl:=Zg.1 L;exact⟨a0 _ _ (λB hB=>(hE B hB).1) X,λk r=>H k (c k r)⟩
 refine (h M w a hM hU hA (pairwise_singleton _ _) (λC L D hD k r a2=>?_) he).mono ?_
 ·obtain rfl:=Zg.1 hD;obtain⟨B,hB,a3⟩:=c k a2;exact a1 C L B hB k r a3
 ·rintro v w' ⟨x,hs,hm,ht⟩;have O:=λk r=>hm.place (A' x) (Zg.2 rfl) k r;have a4:∀k,next M E [Z x] k->next M [A] [A' x] k:=by
   rintro k (⟨r,hn⟩ | r)
   ·exact .inl ⟨r,λh=>hn (c k (Qac.1 h))⟩
   ·rcases I x k (Qac.1 r) with h | ⟨V,h2⟩
    ·exact .inr (Qac.2 h)
    ·exact .inl ⟨H k V,λh=>h2 (Qac.1 h)⟩
  have K:∀k,free (next M [A] [A' x]) w' k->free (next M E [Z x]) w' k:=λk ⟨V,h2⟩=>⟨V,λh=>h2 (a4 k h)⟩;have a5:∀k,(A' x).fp k->QaP E k->A.fp k:=λk r a6=>by
   rcases (O k r).1 with h | h
   ·exact Qac.1 h
   ·have:=hM k (H k a6);omega
  refine⟨x,hs.mono (λk r=>c k (Qac.1 r)),Qbx (λk r=>?_) ?_,(T x).keep K (λ_ _=>rfl) ht⟩
  ·rcases I x k r with h | ⟨V,_⟩
   ·exact⟨(O k h).1.imp (λh=>c k (Qac.1 h)) id,(O k h).2⟩
   ·exact⟨.inl V,ZL (hM k (H k V)) hs.size⟩
  ·refine W (F:=free M w) (λC L=>(hE C L).1) X (λk r=>?_) (λk r=>hs.same k r.1 (λh=>r.2 (H k (c k (Qac.1 h))))) (λk r hn=>hs.same k (hM k (H k r)) (λh=>hn (Qac.1 h))) a5 ((A' x).keep K (λ_ _=>rfl) (λ_ _=>rfl) (hm.ok (A' x) (Zg.2 rfl)));refine Qb1 hs.size H (λC L j hj=>?_) r;obtain rfl:=Zg.1 L;rcases I x j hj with h | ⟨V,_⟩
   ·exact (O j h).1.imp (λh=>c j (Qac.1 h)) id
   ·exact .inl V
end
section
variable {α:Type} {D:DRep α} {e:TypeId} {xs ys:List α} {g g':Value} {o:Option Nat} {i:Int} {x y:α} {A A':Atom}
def QoW:Part (own (drep D) e (zg xs g) (dh g)) (QbQ D e xs g o):=⟨λ_ _ h=>h.1,λ_ h=>.inl h⟩
def Q9 (h:idx xs i=some x) (p:Part A (D.lo x (ds g i.toNat))) (c:o≠some i.toNat:=by exact non):Part A (QbQ D e xs g o):=by obtain⟨_,_,hx⟩:=Qft h;exact⟨λF w r=>p.ok _ _ (r.2.1 _ _ c hx).1,λk C=>.inr ⟨_,_,c,hx,p.sub k C⟩⟩
def Qnk {R:Rep β} {R':Rep γ} {bs:List β} (r:R.n=R'.n) (hl:bs.length=cs.length) (C:bs.flatMap R.cs=cs.flatMap R'.cs) (h:(own R e bs v).ok F w):(own R' e cs v).ok F w:=by obtain⟨us,H,c⟩:=h;exact⟨us,by rw[<-r,<-hl];exact H,by rw[<-C];exact c⟩
def Qms {f:β->List Ty} {r:γ->List Ty} {bs:List β} (hl:bs.length=cs.length) (h:∀(j:Nat) b c,bs[j]?=some b->cs[j]?=some c->f b=r c):bs.flatMap f=cs.flatMap r:=by
 induction bs generalizing cs with
 | nil=>cases cs with | nil=>rfl | cons=>cases hl
 | cons b bs C=>
  cases cs with
  | nil=>cases hl
  | cons c cs=>rw[flatMap_cons,flatMap_cons,h 0 b c rfl rfl,C (by simpa using hl) (λj b c hb H=>h (j+1) b c (by simpa using hb) (by simpa using H))]
def QbC (h:idx xs i=some x) (hs:setAt xs i y=some ys) (hf:Qmk A A' (D.lo x (ds g i.toNat)) (D.lo y (ds g i.toNat))) (hc:D.cs y (ds g i.toNat)=D.cs x (ds g i.toNat):=by rfl) (K:o≠some i.toNat:=by exact non):
  Qmk A A' (QbQ D e xs g o) (QbQ D e ys g o):=by
 obtain⟨_,Z,hx⟩:=Qft h;obtain⟨_,_,rfl⟩:=Qlh hs;have hy:(xs.set i.toNat y)[i.toNat]?=some y:=getElem?_set_self Z;have H:∀j,j≠i.toNat->(xs.set i.toNat y)[j]?=xs[j]?:=λj I=>getElem?_set_ne (λe=>I e.symm);refine⟨λF w hB=>hf.ok _ _ (hB.2.1 _ _ K hx).1,λk C=>.inr ⟨_,_,K,hx,hf.sub k C⟩,hf.fpA,λk=>?_,?_⟩
 ·constructor
  ·rintro (C | ⟨j,z,I,hz,C⟩)
   ·exact .inl C
   ·by_cases r:j=i.toNat
    ·subst r;rw[hy] at hz;cases hz;exact .inr ⟨_,_,K,hx,(hf.fpB k).1 C⟩
    ·rw[H j r] at hz;exact .inr ⟨j,z,I,hz,C⟩
  ·rintro (C | ⟨j,z,I,hz,C⟩)
   ·exact .inl C
   ·by_cases r:j=i.toNat
    ·subst r;rw[hx] at hz;cases hz;exact .inr ⟨_,_,K,hy,(hf.fpB k).2 C⟩
    ·exact .inr ⟨j,z,I,by rw[H j r];exact hz,C⟩
 ·rintro F F' w w' ⟨h1,W,X⟩ hF hh hn a0;refine⟨?_,λj z I hz=>?_,λj l z u V I hl hz hu k C=>?_⟩
  ·refine Atom.keep _ hF hh (λk C=>hn k (.inl C) (λhA=>(W _ _ K hx).2 k (hf.sub k hA) C)) (Qnk rfl (by rw[Qdc,Qdc,ZH]) (Qms (by rw[Qdc,Qdc,ZH]) (λj b c hb L=>?_)) h1);rw[Qhp] at hb L;by_cases r:j=i.toNat
   ·subst r;rw[hx] at hb;rw[hy] at L;cases hb;cases L;exact hc.symm
   ·rw[H j r,hb] at L;cases L;rfl
  ·by_cases r:j=i.toNat
   ·subst r;rw[hy] at hz;cases hz;refine⟨hf.back (W _ _ K hx).1 hF hh (λk C hA=>hn k (.inr ⟨_,_,K,hx,C⟩) hA) a0,λk C=>(W _ _ K hx).2 k ((hf.fpB k).1 C)⟩
   ·rw[H j r] at hz;exact⟨Atom.keep _ hF hh (λk C=>hn k (.inr ⟨j,z,I,hz,C⟩) (λhA=>X j _ z x r I K hz hx k C (hf.sub k hA))) (W j z I hz).1,(W j z I hz).2⟩
  ·by_cases r:j=i.toNat
   ·subst r;rw[hy] at hz;cases hz;have O:l≠i.toNat:=λe=>V e.symm;rw[H l O] at hu;exact X _ l x u V K hl hx hu k ((hf.fpB k).1 C)
   ·rw[H j r] at hz;by_cases O:l=i.toNat
    ·subst O;rw[hy] at hu;cases hu;exact λa1=>X j _ z x r I K hz hx k C ((hf.fpB k).1 a1)
    ·rw[H l O] at hu;exact X j l z u V I hl hz hu k C
def Qxz (hl:ys.length=xs.length) (I:dh g'=dh g) (c:∀(j:Nat) x y,o≠some j->xs[j]?=some x->ys[j]?=some y->D.lo y (ds g' j)=D.lo x (ds g j)):
  Qmk (own (drep D) e (zg xs g) (dh g)) (own (drep D) e (zg ys g') (dh g)) (QbQ D e xs g o) (QbQ D e ys g' o):=by
 have H:∀(j:Nat) y,ys[j]?=some y->∃x,xs[j]?=some x:=λj y hy=>⟨_,Zd (by have:=(Ze.1 hy).1;omega)⟩;have K:∀(j:Nat) x,xs[j]?=some x->∃y,ys[j]?=some y:=λj x hx=>⟨_,Zd (by have:=(Ze.1 hx).1;omega)⟩;refine⟨λF w h=>h.1,λk r=>.inl r,λk=>Iff.rfl,λk=>?_,?_⟩
 ·constructor
  ·rintro (r | ⟨j,y,C,hy,r⟩)
   ·exact .inl (I▸r)
   ·obtain⟨x,hx⟩:=H j y hy;exact .inr ⟨j,x,C,hx,c j x y C hx hy▸r⟩
  ·rintro (r | ⟨j,x,C,hx,r⟩)
   ·exact .inl (I.symm▸r)
   ·obtain⟨y,hy⟩:=K j x hx;exact .inr ⟨j,y,C,hy,(c j x y C hx hy).symm▸r⟩
 ·rintro F F' w w' ⟨h1,L,W⟩ X Z hn O;refine⟨I.symm▸O,λj y C hy=>?_,λj l y z V C hl hy hz k r=>?_⟩
  ·obtain⟨x,hx⟩:=H j y hy;rw[c j x y C hx hy,I];exact⟨Atom.keep _ X Z (λk r=>hn k (.inr ⟨j,x,C,hx,r⟩) (λhA=>(L j x C hx).2 k r hA)) (L j x C hx).1,(L j x C hx).2⟩
  ·obtain⟨x,hx⟩:=H j y hy;obtain⟨u,hu⟩:=H l z hz;rw[c j x y C hx hy] at r;rw[c l u z hl hu hz];exact W j l x u V C hl hx hu k r
end
def QuI {e:TypeId} (r:∀k,F k->F' k) (h:(own R e xs v).ok F w) (c:∀k,(own R e xs v).fp k->F' k):(tsl R xs).ok F' w v:=QbY.own (x:=.tmp 0) (Γ:=[(0,tv v)]) (U:=[own R e xs v]) (R:=R) (e:=e) (xs:=xs) (v:=v) (Fct.t 0 rfl) (by simp) F F' w ⟨#[v],[]⟩ r (λA hA=>by simp at hA;subst hA;exact⟨h,c⟩) (λp hp _=>by simp at hp;subst hp;rfl)
def QoX {e:TypeId} {g:Value} (V:∀k,F k->F' k) (h:(deep D e xs g).ok F w) (H:∀(i:Nat) x,xs[i]?=some x->∀k,(D.lo x (ds g i)).fp k->F' k):(own D.S e xs (dh g)).ok F' w:=by
 obtain⟨⟨us,K,L⟩,W,h3⟩:=h;rw[Qdc] at K;have hl:(xs.flatMap D.S.cs).length=((zg xs g).flatMap (drep D).cs).length:=by rw[QaD D.S,QaD (drep D),Qdc]
 refine⟨us,K,by rw[L.1,hl],λj T u C hu=>?_⟩;have c:=(Ze.1 C).1;rw[QaD] at c;have X:0<D.S.n:=by
  rcases Nat.eq_zero_or_pos D.S.n with h | h
  ·rw[h] at c;omega
  ·exact h
 have Z:j / D.S.n<xs.length:=Nat.div_lt_of_lt_mul (by rw[Nat.mul_comm];exact c);have I:j % D.S.n<D.S.n:=Nat.mod_lt _ X;have O:j=j / D.S.n * D.S.n+j % D.S.n:=by rw[Nat.mul_comm];exact (Nat.div_add_mod ..).symm
 have hx:xs[j / D.S.n]?=some xs[j / D.S.n]:=Zd Z;have hz:(zg xs g)[j / D.S.n]?=some (xs[j / D.S.n],ds g (j / D.S.n)):=by rw[Qhp,hx];rfl
 rw[O] at C;have e1:=QeL D.S xs (j / D.S.n) (j % D.S.n) _ hx I;rw[e1] at C;have e2:=QeL (drep D) (zg xs g) (j / D.S.n) (j % D.S.n) _ hz I;have r:j % D.S.n<(D.cs xs[j / D.S.n] (ds g (j / D.S.n))).length:=by rw[D.len];exact I
 have e3:((zg xs g).flatMap (drep D).cs)[j]?=some ((D.cs xs[j / D.S.n] (ds g (j / D.S.n)))[j % D.S.n]):=by
  conv=>lhs;rw[O]
  exact e2.trans (Zd r)
 have:=L.2 j _ u e3 hu;obtain⟨h4,h5⟩:=W (j / D.S.n) _ non hx;exact D.cl V h4 (H _ _ hx) _ _ _ (Zd r) C u this
def QoY {e:TypeId} {g:Value} (C:∀k,F k->F' k) (h:(deep D e xs g).ok F w) (c:∀k,(deep D e xs g).fp k->F' k):(tsl D.S xs).ok F' w (dh g):=QuI (λ_ h=>h) (QoX C h (λi x hx k r=>c k (.inr ⟨i,x,non,hx,r⟩))) (λk r=>c k (.inl r))
structure Flat (A B:Atom):Prop where
 fp:∀k,B.fp k->A.fp k
 ok:∀{F F':Blk} {w:World},(∀k,F k->F' k)->A.ok F w->(∀k,A.fp k->¬B.fp k->F' k)->B.ok F' w
def flat_own' {e:TypeId} {g:Value}:Flat (deep D e xs g) (own D.S e xs (dh g)):=⟨λ_ c=>.inl c,λC h r=>QoX C h (λi x hx k c=>r k (.inr ⟨i,x,non,hx,c⟩) ((h.2.1 i x non hx).2 k c))⟩
def Qsv {e:TypeId} {g:Value} {o:Option Nat} (h:(QbQ D e xs g o).ok F w):(dh g).oneCell'=true:=Qg6 h.1
def QbY.deep {e:TypeId} {g:Value} {Γ:List (Nat×Ty)} {x:Operand} (h:Fct Γ x (tv (dh g))) (hU:Sim.deep D e xs g∈U):QbY Γ U x (tsl D.S xs):=λF F' w a c hA h0=>by have hv:a.eval x=dh g:=h F w a h0;rw[hv];exact QoY c (hA _ hU).1 (hA _ hU).2
def Qli {T:Ty} {l:List Ty} {T':Ty} (h:[T][i]?=some T'):T'=T/\i=0:=by
 cases i with
 | zero=>exact⟨(Zn h).symm,rfl⟩
 | succ i=>simp at h
@[reducible] def dOwn (R : Rep α) (e : TypeId): DRep (List α) :=
 ⟨rSl R,λ_ g=>[tvs (dh g)],λys g=>own R e ys (dh g),λ_ _=>rfl,λ_ g T h F w v hv=>by simp at h;subst h;exact Qb9 F w v hv,λC h c i T T' H r u hu=>by obtain⟨rfl,rfl⟩:=Qli (l:=[]) H;obtain⟨rfl,_⟩:=Qli (l:=[]) r;rw[hu.1];exact QuI C h c⟩
@[reducible] def dRow (D : DRep α) (e : TypeId): DRep (List α) :=
 ⟨rSl D.S,λ_ g=>[tvs (dh g)],λys g=>deep D e ys g,λ_ _=>rfl,λ_ g T h F w v hv=>by simp at h;subst h;exact Qb9 F w v hv,λC h c i T T' H r u hu=>by obtain⟨rfl,rfl⟩:=Qli (l:=[]) H;obtain⟨rfl,_⟩:=Qli (l:=[]) r;rw[hu.1];exact QoY C h c⟩
section
variable {α:Type} {D:DRep α} {e:TypeId} {xs:List α} {g g':Value} {o:Option Nat}
def QxA (C:dh g'=dh g) (H:∀(j:Nat) x,xs[j]?=some x->ds g' j=ds g j) (k:Nat):(QbQ D e xs g' o).fp k↔(QbQ D e xs g o).fp k:=by
 constructor
 ·rintro (c | ⟨j,x,r,hx,c⟩)
  ·exact .inl (C▸c)
  ·exact .inr ⟨j,x,r,hx,H j x hx▸c⟩
 ·rintro (c | ⟨j,x,r,hx,c⟩)
  ·exact .inl (C.symm▸c)
  ·exact .inr ⟨j,x,r,hx,(H j x hx).symm▸c⟩
def QC4 (c:∀(j:Nat) x,xs[j]?=some x->ds g' j=ds g j):zg xs g'=zg xs g:=by
 apply ext_getElem?;intro j;rw[Qhp,Qhp]
 cases hx:xs[j]? with
 | none=>rfl
 | some x=>rw[ZW,ZW,c j x hx]
def Qv8 (H:dh g'=dh g) (c:∀(j:Nat) x,xs[j]?=some x->ds g' j=ds g j):(QbQ D e xs g' o).ok F w↔(QbQ D e xs g o).ok F w:=by
 have e1:=QC4 c;constructor
 ·rintro ⟨I,K,L⟩;refine⟨by rw[<-e1,<-H];exact I,λj x r hx=>by rw[<-c j x hx,<-H];exact K j x r hx,λi j x y C hi r hx hy=>by rw[<-c i x hx,<-c j y hy];exact L i j x y C hi r hx hy⟩
 ·rintro ⟨I,K,L⟩;refine⟨by rw[e1,H];exact I,λj x r hx=>by rw[c j x hx,H];exact K j x r hx,λi j x y C hi r hx hy=>by rw[c i x hx,c j y hy];exact L i j x y C hi r hx hy⟩
end
section
variable {M:Fr} {w0:World} {n:Nat} {Γ:List (Nat×Ty)} {As:List Atom} {a:Act} {w:World} {α:Type} {D:DRep α} {e:TypeId} {xs ys:List α} {g g2:Value} {i:Int} {x y:α}
def St.openD (hi:idx xs i=some x) (h:St M w0 n Γ (deep D e xs g::As) a w):St M w0 n Γ (D.lo x (ds g i.toNat)::QbQ D e xs g (some i.toNat)::As) a w:=by
 obtain⟨_,O,hx⟩:=Qft hi;have C:St M w0 n Γ (QbG [D.lo x (ds g i.toNat),QbQ D e xs g (some i.toNat)]::As) a w:=by
  refine h.swapA (λk c=>?_) (λF I ⟨V,C,K⟩=>⟨λA hA=>?_,?_⟩)
  ·obtain⟨A,hA,c⟩:=c;rcases Zp.1 hA with rfl | hA
   ·exact .inr ⟨_,_,non,hx,c⟩
   ·obtain rfl:=Zg.1 hA;rcases c with c | ⟨j,z,L,hz,c⟩
    ·exact .inl c
    ·exact .inr ⟨j,z,non,hz,c⟩
  ·rcases Zp.1 hA with rfl | hA
   ·exact Atom.keep _ I (λ_ _=>rfl) (λ_ _=>rfl) (C _ _ non hx).1
   ·obtain rfl:=Zg.1 hA;exact Atom.keep _ I (λ_ _=>rfl) (λ_ _=>rfl) ⟨V,λj z _ hz=>C j z non hz,λj l z u H _ _ hz hu=>K j l z u H non non hz hu⟩
  ·refine pairwise_cons.2 ⟨λB W k c r=>?_,pairwise_singleton _ _⟩;obtain rfl:=Zg.1 W;rcases r with r | ⟨j,z,L,hz,r⟩
   ·exact (C _ _ non hx).2 k c r
   ·exact K i.toNat j x z (λe=>L (Ya some e)) non non hx hz k c r
 exact C.unjoin
def St.shutD (hi:idx xs i=some x) (hs:setAt xs i y=some ys) (hc:D.cs y g2=D.cs x (ds g i.toNat)) (h:St M w0 n Γ (D.lo y g2::QbQ D e xs g (some i.toNat)::As) a w):St M w0 n Γ (deep D e ys (dset xs.length g i.toNat g2)::As) a w:=by
 obtain⟨_,W,hx⟩:=Qft hi;obtain⟨_,_,rfl⟩:=Qlh hs;have hy:(xs.set i.toNat y)[i.toNat]?=some y:=getElem?_set_self W;have C:∀j,j≠i.toNat->(xs.set i.toNat y)[j]?=xs[j]?:=λj X=>getElem?_set_ne (λe=>X e.symm);have K:∀j (z:α),j≠i.toNat->xs[j]?=some z->ds (dset xs.length g i.toNat g2) j=ds g j:=λj z X hz=>by rw[QkW (Ze.1 hz).1,Zb X]
 have O:ds (dset xs.length g i.toNat g2) i.toNat=g2:=Qn5 W;have hne:∀{j},j≠i.toNat->some i.toNat≠some j:=λX e=>X (Zn e).symm;have h2:St M w0 n Γ (QbG [D.lo y g2,QbQ D e xs g (some i.toNat)]::As) a w:=St.join (l:=[D.lo y g2,QbQ D e xs g (some i.toNat)]) h;refine h2.swapA (λk I=>?_) (λF hF ⟨hA,a0⟩=>?_)
 ·rcases I with I | ⟨j,z,_,hz,I⟩
  ·exact⟨_,Zz _ (Zq ..),.inl (QkV▸I)⟩
  ·by_cases r:j=i.toNat
   ·subst r;rw[hy] at hz;cases hz;rw[O] at I;exact⟨_,Zq ..,I⟩
   ·rw[C j r] at hz;rw[K j z r hz] at I;exact⟨_,Zz _ (Zq ..),.inr ⟨j,z,hne r,hz,I⟩⟩
 ·have a1:=hA _ (Zq ..);obtain⟨h1,h2,h3⟩:=hA _ (Zz _ (Zq ..));have hd:∀k,(D.lo y g2).fp k->¬(QbQ D e xs g (some i.toNat)).fp k:=(pairwise_cons.1 a0).1 _ (Zq ..);refine Atom.keep _ hF (λ_ _=>rfl) (λ_ _=>rfl) ⟨?_,λj z _ hz=>?_,λj l z u Z _ _ hz hu k I=>?_⟩
  ·rw[QkV];refine Qnk rfl (by rw[Qdc,Qdc,ZH]) (Qms (by rw[Qdc,Qdc,ZH]) (λj b c hb L=>?_)) h1;rw[Qhp] at hb L;by_cases r:j=i.toNat
   ·subst r;rw[hx] at hb;rw[hy] at L;cases hb;cases L;show D.cs x _=D.cs y _;rw[O];exact hc.symm
   ·rw[C j r] at L
    cases hz:xs[j]? with
    | none=>rw[hz] at hb;cases hb
    | some z=>rw[hz] at hb L;cases hb;cases L;show D.cs z _=D.cs z _;rw[K j z r hz]
  ·rw[QkV];by_cases r:j=i.toNat
   ·subst r;rw[hy] at hz;cases hz;rw[O];exact⟨a1,λk I V=>hd k I (.inl V)⟩
   ·rw[C j r] at hz;rw[K j z r hz];exact h2 j z (hne r) hz
  ·by_cases r:j=i.toNat
   ·subst r;rw[hy] at hz;cases hz;rw[O] at I;have H:l≠i.toNat:=λe=>Z e.symm;rw[C l H] at hu;rw[K l u H hu];exact λV=>hd k I (.inr ⟨l,u,hne H,hu,V⟩)
   ·rw[C j r] at hz;rw[K j z r hz] at I;by_cases H:l=i.toNat
    ·subst H;rw[hy] at hu;cases hu;rw[O];exact λV=>hd k V (.inr ⟨j,z,hne r,hz,I⟩)
    ·rw[C l H] at hu;rw[K l u H hu];exact h3 j l z u Z (hne r) (hne H) hz hu k I
def St.flatA (hf:Flat A B) (h:St M w0 n Γ (A::As) a w):St M w0 n Γ (B::As) a w:=by
 have W:=h.own A (by simp);have r:=pairwise_cons.1 h.apart;have H:∀j,fps (B::As) j->fps (A::As) j:=by
  rintro j ⟨Z,c,V⟩;rcases Zp.1 c with rfl | c
  ·exact⟨_,Zq ..,hf.fp j V⟩
  ·exact⟨Z,by simp[c],V⟩
 refine⟨h.size,h.defers,h.grow,h.m0,λZ c=>?_,λZ c k I=>?_,pairwise_cons.2 ⟨λZ c k I=>r.1 Z c k (hf.fp k I),r.2⟩,λp hp=>p.2.keep (Qa6 H) (λ_ _=>rfl) (h.Xp p hp)⟩
 ·rcases Zp.1 c with rfl | c
  ·refine hf.ok (Qa6 H) W (λk I X=>?_);have K:=h.fresh _ (Zq ..) k I;refine⟨K.2,?_⟩;rintro (hm | ⟨C,O,L⟩)
   ·have:=h.m0 k hm;rcases K.1 with hb | hb
    ·exact this.2 hb
    ·omega
   ·rcases Zp.1 O with rfl | O
    ·exact X L
    ·exact r.1 C O k I L
  ·exact Z.keep (Qa6 H) (λ_ _=>rfl) (λ_ _=>rfl) (h.own Z (by simp[c]))
 ·rcases Zp.1 c with rfl | c
  ·exact h.fresh _ (Zq ..) k (hf.fp k I)
  ·exact h.fresh Z (by simp[c]) k I
def St.flatD (h:St M w0 n Γ (deep D e xs g::As) a w):St M w0 n Γ (Sim.own D.S e xs (dh g)::As) a w:=h.flatA flat_own'
def St.shareD {s:Nat} (j:Nat) (h:St M w0 n Γ (deep D e xs g::As) a w) (hi:Γ[j]?=some (s,tv (dh g))):St M w0 n ((s,tsl D.S xs)::Γ) As a w:=h.flatD.share j hi
def St.shutS (hi:idx xs i=some x) (c:setAt xs i y=some ys) (h:St M w0 n Γ (D.lo y (ds g i.toNat)::QbQ D e xs g (some i.toNat)::As) a w) (H:D.cs y (ds g i.toNat)=D.cs x (ds g i.toNat):=by rfl):St M w0 n Γ (deep D e ys g::As) a w:=by
 have I:=h.shutD hi c H;obtain⟨_,K,_⟩:=Qft hi;obtain⟨_,_,rfl⟩:=Qlh c;have r:∀(j:Nat) (z:α),(xs.set i.toNat y)[j]?=some z->ds (dset xs.length g i.toNat (ds g i.toNat)) j=ds g j:=λj z hz=>by
  have C:=(Ze.1 hz).1;rw[ZH] at C;rw[QkW C];split
  ·rename_i e;rw[e]
  ·rfl
 exact I.swapA (λk L=>(QxA QkV r k).2 L) (λF O h0=>Atom.keep _ O (λ_ _=>rfl) (λ_ _=>rfl) ((Qv8 QkV r).1 h0))
def St.shutN (hi:idx xs i=some x) (r:setAt xs i y=some ys) (h:St M w0 n Γ (D.lo y g2::QbQ D e xs (dset xs.length g i.toNat g2) (some i.toNat)::As) a w) (C:D.cs y g2=D.cs x g2:=by rfl):St M w0 n Γ (deep D e ys (dset xs.length g i.toNat g2)::As) a w:=by
 obtain⟨_,c,_⟩:=Qft hi;have e1:ds (dset xs.length g i.toNat g2) i.toNat=g2:=Qn5 c;have H:St M w0 n Γ (D.lo y (ds (dset xs.length g i.toNat g2) i.toNat)::QbQ D e xs (dset xs.length g i.toNat g2) (some i.toNat)::As) a w:=by rw[e1];exact h
 exact H.shutS hi r (by rw[e1];exact C)
structure Bare (D:DRep α) (x:α) (g:Value):Prop where
 ok:∀F w,(D.lo x g).ok F w
 fp:∀k,¬(D.lo x g).fp k
def St.bareD {R:Rep β} {us:List β} {l:List Value} (I:R.n=D.S.n) (hl:us.length=xs.length) (K:∀(j:Nat) b x,us[j]?=some b->xs[j]?=some x->R.cs b=D.cs x (l.getD j nilV)) (hb:∀(j:Nat) x,xs[j]?=some x->Bare D x (l.getD j nilV)) (h:St M w0 n Γ (Sim.own R e us v::As) a w):St M w0 n Γ (deep D e xs (dmk v l)::As) a w:=by
 refine h.swapA (λk C=>?_) (λF L h0=>⟨?_,λj x _ hx=>?_,λj k x y _ _ _ hx _ m hm=>?_⟩)
 ·rcases C with C | ⟨j,x,_,hx,C⟩
  ·rw[Qn4] at C;exact C
  ·rw[Qlg] at C;exact ((hb j x hx).fp k C).elim
 ·rw[Qn4];refine Qnk (R:=R) (R':=drep D) (bs:=us) (cs:=zg xs (dmk v l)) I (by rw[Qdc,hl]) (Qms (by rw[Qdc,hl]) (λj b c H r=>?_)) (Atom.keep _ L (λ_ _=>rfl) (λ_ _=>rfl) h0);rw[Qhp] at r
  cases hx:xs[j]? with
  | none=>rw[hx] at r;cases r
  | some x=>rw[hx] at r;cases r;show R.cs b=D.cs x _;rw[Qlg];exact K j b x H hx
 ·rw[Qlg];exact⟨(hb j x hx).ok _ _,λk C=>((hb j x hx).fp k C).elim⟩
 ·rw[Qlg] at hm;exact ((hb j x hx).fp m hm).elim
def QAA {R:Rep β} {e:TypeId}:Bare (dOwn R e) ([]:List β) nilV:=⟨λ_ _=>QiV,λ_ c=>by cases c⟩
def QAB {w:World}:(deep D e ([]:List α) nilV).ok F w:=⟨QiV,λj x _ hx=>by simp at hx,λi j x y _ _ _ hx=>by simp at hx⟩
def Qv9 {k:Nat}:¬(deep D e ([]:List α) nilV).fp k:=by
 rintro (c | ⟨j,x,_,hx,_⟩)
 ·cases c
 ·simp at hx
def Qsw:Bare (dRow D e) ([]:List α) nilV:=⟨λ_ _=>QAB,λ_=>Qv9⟩
def St.makeD {L:DRep (List β)} {m:Int} {xss:List (List β)} (h:St M w0 n Γ (Sim.own rVal e (replicate m.toNat nilV) v::As) a w) (hb:Bare L ([]:List β) nilV) (c:L.S.n=1) (r:L.cs ([]:List β) nilV=[tvs nilV]) (hm:Sim.mk m ([]:List β)=some xss):St M w0 n Γ (deep L e xss (dmk v [])::As) a w:=by
 have hx:xss=replicate m.toNat []:=by
  unfold Sim.mk at hm;split at hm
  ·exact (Zn hm).symm
  ·cases hm
 subst hx;exact h.bareD c.symm (by simp) (λj b x hb hx=>by obtain rfl:=(eq_of_mem_replicate (Zl hb));obtain rfl:=(eq_of_mem_replicate (Zl hx));exact r.symm) (λj x hx=>by obtain rfl:=(eq_of_mem_replicate (Zl hx));exact hb)
end
section
variable {Γ:List (Nat×Ty)} {P:Program} {d:Option Tmp} {ty:TypeId} {pos:String} {af:Array Edge} {gd:Option (Nat×Bool)} {p q:Operand} {t e e':TypeId} {bytes:Nat} {z:Value} {α β:Type} {D:DRep α} {R2:Rep β} {f:β} {xs ys:List α} {g v:Value} {o:Option Nat} {i:Int} {u u0:α} {off:Nat}
def TOk.deep {b:Nat} (h:TOk P t D.S b z):TOk P t (drep D) b z:=⟨h.d,h.i,h.zc⟩
def Fct.hdrD {y:α} {x:Operand} (K:D.S.n=1) (C:D.cs y gy=[tvs hv]) (h:Fct Γ x (tsl rVal [hv])):Fct Γ x (tsl (drep D) [(y,gy)]):=h.Xo λF w v ⟨H,cap,r,hl,I⟩=>⟨H,cap,r,hl,λ_=>by
 obtain⟨b,off,ha,hb,c⟩:=I (by simp);refine⟨b,off,ha,hb,?_⟩;have e1:[(y,gy)].flatMap (drep D).cs=[hv].flatMap rVal.cs:=by show D.cs y gy++[]=[tvs hv]++[];rw[C]
 rw[e1];exact c⟩
def Qg9 (ht:P.underlying t=some (.slice e')) (hp:Fct Γ p (tv (dh g))):OpJ P ⟨d,.call { callee:=.builtin .len,args:=#[p],argTypes:=#[t] },ty,pos,af,gd⟩ Γ [QbQ D e xs g o] [] (λ_=>[]) (λ_=>tv (.int .i64 xs.length)):=.part QoW (Qdc (xs:=xs) (g:=g)▸Qg3 (R:=drep D) ht hp)
def QaV {k:IntKind} (ht:P.underlying t=some (.slice e')) (hz:TOk P e' D.S bytes z) (hp:Fct Γ p (tv (dh g))) (hi:Fct Γ q (tv (.int k i))) (h:idx xs i=some u):
  OpJ P ⟨d,.indexAddr t p q,ty,pos,af,gd⟩ Γ [QbQ D e xs g o] [] (λ_=>[]) (λ_=>tv (Qbm (dh g) (i.toNat * D.S.n))):=
 .part QoW (Qaz (R:=drep D) ht hz.deep hp hi (Qsu h))
def Qa7 (hz:TOk P t rVal bytes z) (hp:Fct Γ p (tv (Qbm (dh g) (i.toNat * D.S.n)))) (h:idx xs i=some u) (c:D.cs u (ds g i.toNat)=[tvs (dh (ds g i.toNat))]:=by rfl):
  OpJ P ⟨d,.load t p,ty,pos,af,gd⟩ Γ [QbQ D e xs g o] [] (λ_=>[]) (λ_=>tv (dh (ds g i.toNat))):=
 .part QoW (QlU (Qho (R:=drep D) (R2:=rVal) (f:=dh (ds g i.toNat)) (off:=0) hz (hp.Xo λ_ _ _ h=>by rw[h];exact (Qrd _ _).symm) (Qsu h) (by show [tvs _]=((D.cs u (ds g i.toNat)).drop 0).take 1;rw[c];rfl)) (λ_ _ _ _ h=>h.1))
def Qwa {g2:Value} (I:∀F w,B.ok F w->hv.oneCell'=true) (hz:TOk P t rVal bytes z) (hp:Fct Γ p (tv (padd (Qbm (dh g) (i.toNat * D.S.n)) off))) (hx:Fct Γ q (tv hv)) (h0:idx xs i=some u0) (hoff:off+1<=D.S.n) (hu:D.cs u0 g2=splice (D.cs u0 (ds g i.toNat)) off [tvs hv]):
  OpJ P ⟨d,.store t p q,ty,pos,af,gd⟩ Γ [B] [QbQ D e xs g (some i.toNat)] (λ_=>[QbQ D e xs (dset xs.length g i.toNat g2) (some i.toNat)]) (λ_=>tany):=
 .say (A:=B) (by simp) I λK=>by
  obtain⟨C,r,H⟩:=Qft h0;have L:setAt xs i u0=some xs:=by
   unfold setAt;rw[Zc ⟨C,by omega⟩];congr 1;apply ext_getElem?;intro j;by_cases c:i.toNat=j
   ·subst c;rw[getElem?_set_self r,H]
   ·rw[getElem?_set_ne c]
  refine (OpJ.focus (Qxz rfl QkV (λj x y c hx hy=>?_)) (Qmj (R:=drep D) (R2:=rVal) (u:=(u0,ds (dset xs.length g i.toNat g2) i.toNat)) (u2:=hv) hz hp (hx.Xo λ_ _ _ h=>⟨h,K⟩) (Qsu h0) (zg_set L (λj c hne=>by rw[QkW c,Zb hne])) hoff ?_)).Xq (λA hA=>by cases hA)
  ·rw[hx] at hy;cases hy;rw[QkW (Ze.1 hx).1,Zb (λe=>c (Ya some e.symm))]
  ·show D.cs u0 _=_;rw[Qn5 r];exact hu
def Qlx {g2:Value} (c:∀F w,B.ok F w->hv.oneCell'=true) (hz:TOk P t rVal bytes z) (hp:Fct Γ p (tv (Qbm (dh g) (i.toNat * D.S.n)))) (hx:Fct Γ q (tv hv)) (h0:idx xs i=some u0) (hoff:0+1<=D.S.n) (hu:D.cs u0 g2=splice (D.cs u0 (ds g i.toNat)) 0 [tvs hv]):
  OpJ P ⟨d,.store t p q,ty,pos,af,gd⟩ Γ [B] [QbQ D e xs g (some i.toNat)] (λ_=>[QbQ D e xs (dset xs.length g i.toNat g2) (some i.toNat)]) (λ_=>tany):=
 Qwa c hz (hp.Xo λ_ _ _ h=>by rw[h];exact (Qrd _ _).symm) hx h0 hoff hu
def Qsx {y:α} (ht:P.underlying t=some (.slice e)) (hz:TOk P e D.S bytes z) (hb:bytes<=2048) (hx:Fct Γ p (tv (dh g))) (hy:Fct Γ q (tsl (drep D) [(y,gy)])) (h:rm (xs.length+1)=some ()):
  OpJ P ⟨d,.call { callee:=.builtin .append,args:=#[p,q],argTypes:=#[t,t] },ty,pos,af,gd⟩ Γ [] [deep D e xs g,D.lo y gy] (λC=>[deep D e (xs++[y]) (Qec xs.length g C gy)]) (λC=>tv C):=by
 refine OpJ.over (A:=own (drep D) e (zg xs g) (dh g)) (A':=λC=>own (drep D) e (zg xs g++[(y,gy)]) C) (λF w h _=>(h _ (Zq ..)).1) (λk c=>⟨_,Zq ..,.inl c⟩) (λ{F w} h I C k c=>?_) ?_ (Qbr (R:=drep D) ht hz.deep hb hx hy (by rw[Qdc];exact h))
 ·rcases c with c | ⟨j,x,_,hx,c⟩
  ·rw[show dh (Qec xs.length g C gy)=C from Qn4] at c;exact .inl c
  ·refine .inr ?_;rcases Qn6 hx with⟨hx,K⟩ | ⟨rfl,rfl⟩
   ·rw[Qjq K] at c;exact⟨⟨_,Zq ..,.inr ⟨j,x,non,hx,c⟩⟩,((h _ (Zq ..)).2.1 j x non hx).2 k c⟩
   ·rw[QlY] at c;exact⟨⟨_,Zz _ (Zq ..),c⟩,λh1=>(pairwise_cons.1 I).1 _ (Zq ..) k (.inl h1) c⟩
 ·intro C F F' w w' h I hF hh hn L Z;obtain⟨h1,h2,h3⟩:=h _ (Zq ..);have a0:=h _ (Zz _ (Zq ..));have X:∀k,(deep D e xs g).fp k->¬(D.lo y gy).fp k:=(pairwise_cons.1 I).1 _ (Zq ..);have e1:dh (Qec xs.length g C gy)=C:=Qn4;have H:∀{j x k},xs[j]?=some x->(D.lo x (ds g j)).fp k->(deep D e xs g).fp k:=λhx c=>.inr ⟨_,_,non,hx,c⟩;refine⟨by rw[e1,QC3];exact Z,λj x _ hx=>?_,λj l x u O _ _ hx hu k c=>?_⟩
  ·rw[e1];rcases Qn6 hx with⟨hx,K⟩ | ⟨rfl,rfl⟩
   ·rw[Qjq K];obtain⟨h4,h5⟩:=h2 j x non hx;exact⟨Atom.keep _ hF hh (λk c=>hn k ⟨_,Zq ..,H hx c⟩ (h5 k c)) h4,λk c r=>h5 k c (L k r ⟨_,Zq ..,H hx c⟩)⟩
   ·rw[QlY];exact⟨Atom.keep _ hF hh (λk c=>hn k ⟨_,Zz _ (Zq ..),c⟩ (λr=>X k (.inl r) c)) a0,λk c r=>X k (.inl (L k r ⟨_,Zz _ (Zq ..),c⟩)) c⟩
  ·rcases Qn6 hx with⟨V,K⟩ | ⟨e1,e2⟩<;>rcases Qn6 hu with⟨W,hl⟩ | ⟨e3,e4⟩
   ·rw[Qjq K] at c;rw[Qjq hl];exact h3 j l x u O non non V W k c
   ·subst e3;subst e4;rw[Qjq K] at c;rw[QlY];exact X k (H V c)
   ·subst e1;subst e2;rw[QlY] at c;rw[Qjq hl];exact λr=>X k (H W r) c
   ·exact (O (e1.trans e3.symm)).elim
def FnOk.flatD {f:FuncId} (h:FnOk P f Ts [] (λv=>[deep D e xs v]) (λv=>T (dh v))):FnOk P f Ts [] (λv=>[own D.S e xs v]) T:=by
 intro M w vs O W I X;refine Calls.mono (h M w vs O W I X) ?_;rintro en w' ⟨x,v,Z,hg,V,K⟩;have r:=V.place _ (Zg.2 rfl);have H:=V.ok _ (Zg.2 rfl);have c:∀k,free (next M [] [deep D e xs x]) w' k->free (next M [] [own D.S e xs (dh x)]) w' k:=by
  rintro k ⟨h1,h2⟩;refine⟨h1,λhm=>h2 ?_⟩;rcases hm with hm | ⟨A,hA,C⟩
  ·exact .inl hm
  ·obtain rfl:=Zg.1 hA;exact .inr ⟨_,Zg.2 rfl,.inl C⟩
 refine⟨dh x,v,Z,hg,⟨pairwise_singleton _ _,λA hA k C=>?_,λA hA=>?_⟩,(T (dh x)).keep c (λ_ _=>rfl) K⟩
 ·obtain rfl:=Zg.1 hA;exact r k (.inl C)
 ·obtain rfl:=Zg.1 hA;refine QoX c H (λi z hz k C=>⟨(r k (.inr ⟨i,z,non,hz,C⟩)).2,?_⟩);rintro (⟨hm,_⟩ | ⟨A,hA,L⟩)
  ·have:=O k hm;rcases (r k (.inr ⟨i,z,non,hz,C⟩)).1 with h | h
   ·rw[Qfq] at h;exact h
   ·omega
  ·obtain rfl:=Zg.1 hA;exact (H.2.1 i z non hz).2 k C L
def FnOk.roD {f:FuncId} {T':Ty} (h:FnOk P f Ts [] (λv=>[deep D e xs v]) (λv=>tv (dh v))) (c:∀x F w v,(tsl D.S xs).ok F w x->(tv x).ok F w v->T'.ok F w v):FnOk P f Ts [] (λ_=>[]) (λ_=>T'):=(FnOk.flatD (T:=λx=>tv x) h).ro c
end
def isFz (g:Value):Bool:=match g with | .nilFunc=>true | _=>false
def fidV (o:Option Nat):Value:=match o with | none=>.nilFunc | some f=>.func (.func f) #[] #[]
section
variable {Γ:List (Nat×Ty)} {P:Program} {d:Option Tmp} {ty:TypeId} {pos:String} {af:Array Edge} {g:Option (Nat×Bool)} {x y:Operand} {t t2:TypeId} {ps rs:Array TypeId} {va:Bool} {o:Option Nat}
def Fct.fid {f:FuncId} (h:Fct Γ x (tv (fidV (some f)))):Fct Γ x (Qbu f []):=h.Xo λ_ _ _ hv=>⟨[],hv,rfl,λj T u h=>by simp at h⟩
end

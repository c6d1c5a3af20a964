/- The logic's part on a range over a function. No condition. -/
import Derived.Test.YtohojolgolinoaaGreatDoorSimL
import Derived.RangeFuncRecord
import Derived.MapKept
import Derived.Laws.Cover3
import Derived.Deep.AppendSrc
import Derived.RangeFuncNested
set_option linter.all false
open List
namespace Go.Sim
variable {α:Type} {E:List Atom} {w:World} {F:Blk} {Ts:List Ty} {A:Atom} {N:Value->List Atom} {T:Value->Ty} {β:Type} {xs:List α} {v:Value} {B:Atom} {γ:Type} {F' M:Blk} {i:Nat} {Γl:List (Nat×Ty)} {w':World} {Q:Exit->Act->World->Prop} {R:Rep α} {j:Nat} {body:Code} {U:List Atom} {gy hv:Value} {ops:List Oper} {draw:Bool} {is:List Info} {es:Array MapEntry} {tmps:Array Value} {ps:Array Tmp} {assign:Code} {l1 l2:List Atom} {cs:List γ} {Γ:List (Nat×Ty)} {P:Program} {w0:World} {n:Nat} {As:List Atom} {a:Act} {d:Option Tmp} {ty:TypeId} {pos:String} {af:Array Edge} {x:Operand} {t e:TypeId} {g:Option (Nat×Bool)} {bytes:Nat} {z:Value} {y:Operand} {u:α} {ys:List α} {o:Option Nat} {M0:Blk} {q:Operand} {kt et e':TypeId} {R2:Rep β} {g':Value} {k:IntKind} {t2:TypeId}
def objA (b:Nat) (o:Obj):Atom:=⟨λk=>k=b,λ_ w=>w.heap[b]?=some o,λ_ _ hf h=>(hf b rfl).trans h⟩
def CI (l:Nat) (r:Loop) (Γ:List (Nat×Ty)):Atom:=⟨λk=>k=l,λF w=>w.heap[l]?=some (.loop r)/\∀p∈Γ,p.2.ok F w (r.tmps.getD p.1 undef),λc C hf h=>⟨(hf l rfl).trans h.1,λp hp=>p.2.keep c C (h.2 p hp)⟩⟩
def A0 (fn:FuncId) (tmps:Array Value) (ps:Array Tmp) (assign body:Code) (D:Nat):Loop:={ state:=.ready,pending:=none,fn,tmps,params:=ps,assign,body,defers:=D }
def mark (D:Nat):Deferred:={ target:=.collected D,args:=#[] }
abbrev defO:Obj:=.deferred (some [])
section
variable {M:Fr}
def St.putA {b:Nat} {o':Obj} {A':Atom} (h:St M w0 n Γ (A::As) a w) (hA:∀k,A.fp k↔k=b) (K:∀k,A'.fp k↔k=b) (X:∀(F F':Blk) (w w':World),(∀k,F k->F' k)->(∀k,F k->w'.heap[k]?=w.heap[k]?)->w'.heap[b]?=some o'->A.ok F w->A'.ok F' w'):St M w0 n Γ (A'::As) a (w.putObj b o'):=by
 have hb:=h.fresh A sm b ((hA b).2 rfl);have V:∀k,hold M.m (A'::As) k->hold M.m (A::As) k:=by
  rintro k (r | ⟨B,I,r⟩)
  ·exact .inl r
  ·rcases Zp.1 I with rfl | I
   ·exact .inr ⟨A,Zs ..,(hA k).2 ((K k).1 r)⟩
   ·exact .inr ⟨B,ZE _ I,r⟩
 have H:∀k,free (hold M.m (A::As)) w k->free (hold M.m (A'::As)) (w.putObj b o') k:=λk ⟨W,Z⟩=>⟨by simpa using W,λhh=>Z (V k hh)⟩;have c:∀k,k≠b->(w.putObj b o').heap[k]?=w.heap[k]?:=λk r=>World.putObj_heap_other r;have L:∀k,free (hold M.m (A::As)) w k->k≠b:=λk Z e=>Z.2 (.inr ⟨A,Zs ..,(hA k).2 e⟩);have O:=pairwise_cons.1 h.apart;refine⟨h.size,h.defers,?_,h.m0,?_,?_,pairwise_cons.2 ⟨λB I k r=>O.1 B I k ((hA k).2 ((K k).1 r)),O.2⟩,λp hp=>p.2.keep H (λk r=>c k (L k r)) (h.Xp p hp)⟩
 ·refine h.grow.trans (C:=λk=>k=b) ⟨rfl,rfl,rfl,sm,λk _ r=>c k r⟩ ?_;rintro i rfl hi;rcases hb.1 with W | W
  ·exact W
  ·omega
 ·intro B I;rcases Zp.1 I with rfl | I
  ·exact X _ _ _ _ H (λk r=>c k (L k r)) (World.putObj_heap_same hb.2) (h.own A (Zs ..))
  ·exact B.keep H (λk r=>c k (L k r)) (λk r=>c k (λe=>O.1 B I b ((hA b).2 rfl) (e▸r))) (h.own B (ZE _ I))
 ·intro B I k r;rw[World.putObj_size];rcases Zp.1 I with rfl | I
  ·exact h.fresh A (Zs ..) k ((hA k).2 ((K k).1 r))
  ·exact h.fresh B (ZE _ I) k r
def St.putO {b:Nat} {o:Obj} (o':Obj) (h:St M w0 n Γ (objA b o::As) a w):St M w0 n Γ (objA b o'::As) a (w.putObj b o'):=h.putA (λ_=>Iff.rfl) (λ_=>Iff.rfl) (λ_ _ _ _ _ _ h _=>h)
def St.putL {b:Nat} {r:Loop} (c:Loop) (h:St M w0 n Γ (CI b r Γl::As) a w) (C:c.tmps=r.tmps):St M w0 n Γ (CI b c Γl::As) a (w.putObj b (.loop c)):=h.putA (λ_=>Iff.rfl) (λ_=>Iff.rfl) (λ_ _ _ _ H I K L=>⟨K,λp hp=>by rw[C];exact p.2.keep H I (L.2 p hp)⟩)
def St.layA (o:Obj) (h:St M w0 n Γ As a w) (hA:∀k,A.fp k↔k=w.heap.size) (K:∀(F:Blk) (w':World),(∀k,free (hold M.m As) w k->F k)->(∀k,k<w.heap.size->w'.heap[k]?=w.heap[k]?)->w'.heap[w.heap.size]?=some o->A.ok F w'):St M w0 n Γ (A::As) a (w.alloc o):=by
 have I:∀A∈As,∀k,A.fp k->k<w.heap.size:=λA hA k c=>(h.fresh A hA k c).2;have C:∀k,free (hold M.m As) w k->free (hold M.m (A::As)) (w.alloc o) k:=by
  rintro k ⟨V,O⟩;refine⟨so,?_⟩;rintro (c | ⟨B,H,c⟩)
  ·exact O (.inl c)
  ·rcases Zp.1 H with rfl | H
   ·exact absurd ((hA k).1 c) (Nat.ne_of_lt V)
   ·exact O (.inr ⟨B,H,c⟩)
 have r:∀k,k<w.heap.size->(w.alloc o).heap[k]?=w.heap[k]?:=λk c=>Go.RowKit.Below.heap_alloc w o k c;refine⟨h.size,h.defers,h.grow.trans (Step.alloc w o) (λ_ W=>W.elim),h.m0,?_,?_,pairwise_cons.2 ⟨?_,h.apart⟩,λp hp=>p.2.keep C (λk c=>r k c.1) (h.Xp p hp)⟩
 ·intro B H;rcases Zp.1 H with rfl | H
  ·exact K _ _ C r (World.alloc_heap_new w o)
  ·exact B.keep C (λk c=>r k c.1) (λk c=>r k (I B H k c)) (h.own B H)
 ·intro B H k c;rcases Zp.1 H with rfl | H
  ·obtain rfl:k=w.heap.size:=(hA k).1 c;exact⟨.inr h.grow.size,sm⟩
  ·have:=h.fresh B H k c;exact⟨this.1,so⟩
 ·intro B H k c L;obtain rfl:k=w.heap.size:=(hA k).1 c;exact absurd (I B H _ L) (Nat.lt_irrefl _)
def St.lay (o:Obj) (h:St M w0 n Γ As a w):St M w0 n Γ (objA w.heap.size o::As) a (w.alloc o):=h.layA o (λ_=>Iff.rfl) (λ_ _ _ _ h=>h)
def St.called {R N:List Atom} (h:St M w0 n Γ (E++R) a w) (hs:Step (AR E) w w') (hm:Made (hold M.m (E++R)) E N w w'):St M w0 n Γ (N++R) a w':=by
 have O:=pairwise_append.1 h.apart;have Z:∀k,AR E k->(M.b k\/w0.heap.size<=k)/\k<w.heap.size:=λk ⟨A,hA,c⟩=>h.fresh A (mem_append_left _ hA) k c;have a0:∀k,M.m k->¬AR E k:=λk c he=>by
  have h0:=h.m0 k c;rcases (Z k he).1 with r | r
  ·exact h0.2 r
  ·have:=h0.1;omega
 have I:∀k,next (hold M.m (E++R)) E N k↔hold M.m (N++R) k:=by
  intro k;constructor
  ·rintro (⟨c | ⟨A,hA,c⟩,hne⟩ | ⟨A,hA,c⟩)
   ·exact .inl c
   ·rcases ZH.1 hA with hA | hA
    ·exact (hne ⟨A,hA,c⟩).elim
    ·exact .inr ⟨A,mem_append_right _ hA,c⟩
   ·exact .inr ⟨A,mem_append_left _ hA,c⟩
  ·rintro (c | ⟨A,hA,c⟩)
   ·exact .inl ⟨.inl c,a0 k c⟩
   ·rcases ZH.1 hA with hA | hA
    ·exact .inr ⟨A,hA,c⟩
    ·exact .inl ⟨.inr ⟨A,mem_append_right _ hA,c⟩,λ⟨B,W,H⟩=>O.2.2 B W A hA k H c⟩
 have K:∀k,free (hold M.m (E++R)) w k->free (hold M.m (N++R)) w' k:=by
  rintro k ⟨r,X⟩;refine⟨ZP r hs.size,λhh=>?_⟩;rcases (I k).2 hh with⟨c,_⟩ | ⟨A,hA,c⟩
  ·exact X c
  ·rcases (hm.place A hA k c).1 with⟨B,W,H⟩ | a2
   ·exact X (.inr ⟨B,mem_append_left _ W,H⟩)
   ·omega
 have L:∀k,free (hold M.m (E++R)) w k->w'.heap[k]?=w.heap[k]?:=λk ⟨r,X⟩=>hs.same k r (λ⟨A,hA,c⟩=>X (.inr ⟨A,mem_append_left _ hA,c⟩));have V:∀A∈N++R,∀k,A.fp k->(M.b k\/w0.heap.size<=k)/\k<w'.heap.size:=by
  intro A hA k c;rcases ZH.1 hA with hA | hA
  ·have⟨r,X⟩:=hm.place A hA k c;refine⟨?_,X⟩;rcases r with r | r
   ·exact (Z k r).1
   ·exact .inr (Yt h.grow.size r)
  ·have:=h.fresh A (mem_append_right _ hA) k c;exact⟨this.1,ZP this.2 hs.size⟩
 refine⟨h.size,h.defers,h.grow.trans hs (λi hi a3=>?_),h.m0,?_,V,pairwise_append.2 ⟨hm.apart,O.2.1,?_⟩,λp hp=>p.2.keep K L (h.Xp p hp)⟩
 ·rcases (Z i hi).1 with r | r
  ·exact r
  ·omega
 ·intro A hA;rcases ZH.1 hA with hA | hA
  ·exact A.keep (λk ⟨r,X⟩=>⟨r,λhh=>X ((I k).2 hh)⟩) (λ_ _=>rfl) (λ_ _=>rfl) (hm.ok A hA)
  ·refine A.keep K L (λk c=>hs.same k (h.fresh A (mem_append_right _ hA) k c).2 ?_) (h.own A (mem_append_right _ hA));rintro ⟨B,W,H⟩;exact O.2.2 B W A hA k H c
 ·intro A hA B W k c H;rcases (hm.place A hA k c).1 with⟨C,hC,a1⟩ | r
  ·exact O.2.2 C hC B W k a1 H
  ·have:=(h.fresh B (mem_append_right _ W) k H).2;omega
def Vq (I:∀k,M0 k->k<w.heap.size) (h:DL M0 E w) (r:BA E) (ha:a.tmps.size=n) (V:a.defers=[]) (C:∀p∈Γ,p.2.ok (free M0 w) w (get a p.1)):
  ∃M,A4 M0 E M/\St M w n Γ E a w:=by
 have H:A4 M0 E ⟨λk=>M0 k/\¬AR E k,AR E,[]⟩:=by
  refine⟨rfl,λk=>⟨λc=>?_,?_⟩,λk c=>c.2,rfl⟩
  ·by_cases K:AR E k
   ·exact .inr K
   ·exact .inl ⟨c,K⟩
  ·rintro (c | c)
   ·exact c.1
   ·exact Cr h k c
 have L:∀k,free M0 w k->free (hold (λk=>M0 k/\¬AR E k) E) w k:=by
  rintro k ⟨W,O⟩;refine⟨W,?_⟩;rintro (hm | hm)
  ·exact O hm.1
  ·exact O (Cr h k hm)
 exact⟨_,H,⟨ha,V,Step.refl _ _,λk c=>⟨I k c.1,c.2⟩,λA hA=>A.keep L (λ_ _=>rfl) (λ_ _=>rfl) (h A hA).1,λA hA k c=>⟨.inl ⟨A,hA,c⟩,I k ((h A hA).2 k c)⟩,r,λp hp=>p.2.keep L (λ_ _=>rfl) (C p hp)⟩⟩
def RU {N:List Atom} (is:List Nat) (r:A4 M0 E M) (h:St M w0 n Γ As a w) (L:Bj is=true) (I:is.filterMap (λi=>As[i]?)=N):Step (AR E) w0 w/\Made M0 E N w0 w:=by
 have c:∀A,A∈N->A∈As:=by intro A hA;rw[<-I] at hA;have⟨i,_,hi⟩:=Yx.1 hA;exact Zo hi
 have C:∀k,free (hold M.m As) w k->free (next M0 E N) w k:=by
  rintro k ⟨O,K⟩;refine⟨O,?_⟩;rintro (⟨hm,hne⟩ | ⟨A,hA,H⟩)
  ·rcases (r.m k).1 hm with hm | hm
   ·exact K (.inl hm)
   ·exact hne hm
  ·exact K (.inr ⟨A,c A hA,H⟩)
 refine⟨by rw[<-r.b];exact h.grow,⟨?_,λA hA k H=>?_,λA hA=>Atom.keep _ C (λ_ _=>rfl) (λ_ _=>rfl) (h.own _ (c A hA))⟩⟩
 ·rw[<-I];exact Vm h.apart L
 ·have:=h.fresh A (c A hA) k H;rw[r.b] at this;exact this
def mK {l:Nat} {r:Loop} {F:Fence} {m:Nat} (C:St M w0 n Γ (CI l r Γl::As) a w) (H:r.state=.ready) (h:∀c,St M w0 n Γ (CI l { r with state:=.busy } Γl::As) a c->body.wpIn F m P Q a c):∃c,(Instr.beginRound l).run P w=.ok () c/\body.wpIn F m P Q a c:=
 ⟨_,run_beginRound (C.own _ (Zs ..)).1 H,h _ (C.putL _ rfl)⟩
structure Jt (M0:Blk) (E:List Atom) (D:Nat) (M:Fr):Prop where
 b:M.b=AR E
 m:∀k,M0 k↔M.m k\/AR E k
 d:∀k,M.m k->¬AR E k
 e:M.d=[mark D]
def RetM (P:Program) (c:Func) (M:Blk) (E:List Atom) (w0:World) (N:Value->List Atom) (T:Value->Ty):Exit->Act->World->Prop:=bodyPostM Fence.wide 0 P c (λe w'=>∃x v,e=.returned v/\Step (AR E) w0 w'/\Made M E (N x) w0 w'/\(T x).ok (free (next M E (N x)) w') w' v)
def FnOk.enterM {f:FuncId} {r:Func} {c:Code} (hf:P.funcs[f]?=some r) (hb:r.body=some c) (hn:r.ntmps=n) (hl:Ts.length<=n) (h:∀M0 M w a,A4 M0 E M->St M w n (ents Ts) E a w->c.wp P (RetM P r M0 E w N T) a w):FnOk P f Ts E N T:=by
 intro M0 w vs hM hE V hc;have W:=hc.1;have⟨M,X,Z⟩:=Vq (Γ:=ents Ts) (n:=n) (a:={ tmps:=vs.toArray++Array.replicate (r.ntmps - vs.toArray.size) undef,defers:=[] }) hM hE V (by simp[hn];omega) rfl (by
  intro p hp;obtain⟨⟨T',i⟩,C,rfl⟩:=ZR.1 hp;have⟨j,L⟩:=ZX.1 C;rw[getElem?_zipIdx] at L
  cases O:Ts[j]? with
  | none=>simp[O] at L
  | some H=>
   simp only[O,Yb,ZQ,Yf] at L;obtain⟨rfl,rfl⟩:=L;have I:j<vs.length:=by rw[W];exact (Zf.1 O).1
   have K:get { tmps:=vs.toArray++Array.replicate (r.ntmps - vs.toArray.size) undef,defers:=[] } (0+j)=vs[j]:=by unfold get;simp[Array.getElem?_append,I]
   show H.ok _ _ (get _ (0+j));rw[K];exact hc.2 j H vs[j] O (Zd I))
 exact callsIn_wide.1 (callsIn_of_wp_marks (n:=0) hf hb trivial ((wpIn_wide (n:=0)).2 (h M0 M w _ X Z)) rfl)
def nA {c:Func} (h:Ret P c M0 E w0 N T .ret a w):RetM P c M0 E w0 N T .ret a w:=by have⟨r,v,hv,C⟩:=h;show LeavesInM _ _ _ _ _ _ a.defers _ _;rw[r];exact⟨v,hv,C⟩
def nF {K:Func} {rs:List ResultVar} {D:Nat} (x:Value) (is:List Nat) (c:Jt M0 E D M) (C:St M w0 n Γ (objA D defO::As) a w) (H:K.results=rs.toArray) (h:CH P Γ (objA D (.deferred none)::As) rs Ts) (L:Bj is=true) (O:is.filterMap (λi=>(objA D (.deferred none)::As)[i]?)=N x) (V:T x=FI Ts):RetM P K M0 E w0 N T .normal a w:=by
 have r:=C.putO (.deferred none);have I:=r.defers;have W:St ⟨M.m,M.b,[]⟩ w0 n Γ (objA D (.deferred none)::As) { a with defers:=[] } (w.putObj D (.deferred none)):=⟨r.size,rfl,r.grow,r.m0,r.own,r.fresh,r.apart,r.Xp⟩;have⟨_,v,hv,X⟩:=FE (P:=P) x is (⟨c.b,c.m,c.d,rfl⟩:A4 M0 E ⟨M.m,M.b,[]⟩) W H h L O V;show LeavesInM _ _ _ _ _ _ a.defers _ _;rw[I,c.e];exact⟨sm,.inl ⟨D,_,rfl,run_takeDeferred (C.own _ (Zs ..)),v,hv,X⟩⟩
def V3 (ops:List Oper):Bool:=ops.all λo=>match o.op with | .defer _=>false | _=>true
def wp_rgR {l:Nat} {id:Nat} (hm:P.follows .mixedOrders=true) (K:V3 ops=true) (h:List Ver) (H:St M w0 n Γ As a w) (r:∀new,Run P ops (verA As h) new 0 Γ ops is) (C:chk ops is ((verA As h).map (·.ds)) (Γ.map (·.1)) As.length (verA As h).length n=true) (L:∀new I w',St M w0 n (outG ops is Γ new) (Cb (verA As h) is new) I w'->Q .normal I w'):(Code.region id ops.toArray draw).wpIn (Fence.wide.inRound l) 0 P Q a w:=
 mC hm (λo O c e=>by have:=ZD.1 K o O;rw[e] at this;cases this) h H r C L
def V4 {q:Value} {w:World} (h:(box Ts q).ok F w):q.oneCell'=true:=by have⟨b,_,_,c,_⟩:=h;rw[c];rfl
def fV {q:Value} (hx:Fct Γ x (tv q)):OpJ P ⟨d,.box t x,ty,pos,af,g⟩ Γ [box Ts q] [] (λ_=>[]) (λ_=>tptr (rVal.cs q)):=.say (A:=box Ts q) sm (λ_ _ h=>V4 h) λc=>(Mj (R:=rVal) (u:=q) (hx.Xo λ_ _ _ h=>⟨h,c⟩)).Xq (λA hA=>by cases hA)
def Ck {q:Value} (hz:TOk P t rVal bytes z) (hp:Fct Γ x (tptr (rVal.cs q))):OpJ P ⟨d,.load t x,ty,pos,af,g⟩ Γ [] [] (λ_=>[]) (λ_=>tv q):=Jm (Q4 (R:=rVal) (u:=q) hz hp) (λ_ _ _ _ h=>h.1)
end
section
variable {s:Nat} {w b:Bool} {e0 e1 e2 e3 e4 e5 e6 e7 e8 e9 e10 e11:Nat×Ty}
def bq0:Grd ((s,tv (.bool b))::Γ) s w (b==w):=.b 0 rfl
def bq1:Grd (e0::(s,tv (.bool b))::Γ) s w (b==w):=.b 1 rfl
def bq2:Grd (e0::e1::(s,tv (.bool b))::Γ) s w (b==w):=.b 2 rfl
def bq3:Grd (e0::e1::e2::(s,tv (.bool b))::Γ) s w (b==w):=.b 3 rfl
def bq6:Grd (e0::e1::e2::e3::e4::e5::(s,tv (.bool b))::Γ) s w (b==w):=.b 6 rfl
end
def bs2 {x:Option α} {f:α->Option β} {g:α->β->Option γ} {r:γ} (h:(x.bind λa=>(f a).bind (g a))=some r):∃a,x=some a/\∃b,f a=some b/\g a b=some r:=by have⟨a,c,C⟩:=bind_some h;have⟨b,H,I⟩:=bind_some C;exact⟨a,c,b,H,I⟩
def bs3 {C:Type} {x:Option α} {f:α->Option β} {g:α->β->Option γ} {k:α->β->γ->Option C} {r:C} (h:(x.bind λa=>(f a).bind λb=>(g a b).bind (k a b))=some r):∃a,x=some a/\∃b,f a=some b/\∃c,g a b=some c/\k a b c=some r:=by have⟨a,H,I⟩:=bind_some h;have⟨b,K,L⟩:=bind_some I;have⟨c,O,V⟩:=bind_some L;exact⟨a,H,b,K,c,O,V⟩
def bs4 {C H:Type} {x:Option α} {f:α->Option β} {g:α->β->Option γ} {k:α->β->γ->Option C} {l:α->β->γ->C->Option H} {r:H} (h:(x.bind λa=>(f a).bind λb=>(g a b).bind λc=>(k a b c).bind (l a b c))=some r):∃a,x=some a/\∃b,f a=some b/\∃c,g a b=some c/\∃d,k a b c=some d/\l a b c d=some r:=by have⟨a,I,K⟩:=bind_some h;have⟨b,L,c,O,d,V,W⟩:=bs3 K;exact⟨a,I,b,L,c,O,d,V,W⟩
def bs {x:Option α} {f:α->Option β} {r:β} (h:x.bind f=some r):∃a,x=some a/\f a=some r:=bind_some h
section
variable {M:Fr}
def wi {s:Nat} {b:Bool} {x y:Option α} {r:α} {C H:Code} (c:St M w0 n ((s,tv (.bool b))::Γ) As a w) (h:(if b then x else y)=some r) (ht:b=true->x=some r->C.wp P Q a w) (hf:b=false->y=some r->H.wp P Q a w):(Code.cond (.tmp s) C H).wp P Q a w:=wt c (λhb=>ht hb (C6 hb h)) (λhb=>hf hb (C7 hb h))
def fe {f:FuncId} {r:Func} {c:Code} (hf:P.funcs[f]?=some r) (C:r.ntmps=n) (h:∀M0 M w a,A4 M0 E M->St M w n (ents Ts) E a w->c.wp P (Ret P r M0 E w N T) a w) (hb:r.body=some c:=by rfl) (hl:Ts.length<=n:=by exact Nat.le_of_ble_eq_true rfl):FnOk P f Ts E N T:=FnOk.enter hf hb C hl h
def rt {H:Func} {rs:List ResultVar} (x:Value) (is:List Nat) (c:A4 M0 E M) (r:St M w0 n Γ As a w) (h:CH P Γ As rs Ts) (C:H.results=rs.toArray:=by rfl) (I:Bj is=true:=by rfl) (K:is.filterMap (λi=>As[i]?)=N x:=by rfl) (L:T x=FI Ts:=by rfl):Ret P H M0 E w0 N T .ret a w:=FE x is c r C h I K L
def r0 {e r:α} {P:Program} {a:Act} {w:World} (h:some e=some r) (k:e=r->Q .ret a w):Code.ret.wp P Q a w:=wp_ret (k (Zn h))
def r1 {H:Func} {rs:List ResultVar} (c:A4 M0 E M) (r:St M w0 n Γ As a w) (h:CH P Γ As rs Ts) (C:H.results=rs.toArray:=by rfl) (I:([]:List Atom)=N undef:=by rfl) (K:T undef=FI Ts:=by rfl):Ret P H M0 E w0 N T .ret a w:=FE undef [] c r C h rfl I K
end
section
open Go.MapKept
def mget:List (Int×α)->Int->Option α
 | [],_=>none
 | p::l,i=>if i=p.1 then some p.2 else mget l i
def mset:List (Int×α)->Int->α->List (Int×α)
 | [],i,y=>[(i,y)]
 | p::l,i,y=>if i=p.1 then (i,y)::l else p::mset l i y
def BO:∀(l:List (Int×α)) (i:Int) (y:α) (j:Int),mget (mset l i y) j=if j=i then some y else mget l j
 | [],i,y,j=>by simp[mset,mget]
 | p::l,i,y,j=>by
  unfold mset;by_cases h:i=p.1
  ·rw[Zc h];unfold mget;by_cases c:j=i
   ·rw[Zc c,Zc c]
   ·rw[Zb c,Zb c,Zb (by rw[<-h];exact c)]
  ·rw[Zb h];unfold mget;by_cases hp:j=p.1
   ·rw[Zc hp,Zc hp,Zb (by rw[hp];exact λe=>h e.symm)]
   ·rw[Zb hp,Zb hp];exact BO l i y j
abbrev Mp (α:Type):=Option (List (Int×α))
def AY (m:Mp α) (i:Int):Option α:=m.bind λl=>mget l i
def mput (m:Mp α) (i:Int) (y:α):Option (Mp α):=m.map λl=>some (mset l i y)
structure FJ (R:Rep α) (F:Blk) (w:World) (es:Array MapEntry) (l:List (Int×α)):Prop where
 all:∀e∈es.toList,∃i x,e.key=.int .i64 i/\mget l i=some x/\(R.ty x).ok F w e.val
 has:∀i x,mget l i=some x->∃e∈es.toList,e.key=.int .i64 i
 one:∀(n n':Nat) (e e':MapEntry),es.toList[n]?=some e->es.toList[n']?=some e'->e.key=e'.key->n=n'
def FJ.keep {R:Rep α} {l:List (Int×α)} (c:∀k,F k->F' k) (r:∀k,F k->w'.heap[k]?=w.heap[k]?) (h:FJ R F w es l):FJ R F' w' es l:=⟨λe C=>let⟨i,x,H,I,K⟩:=h.all e C;⟨i,x,H,I,(R.ty x).keep c r K⟩,h.has,h.one⟩
def RV (R:Rep α) (F:Blk) (w:World) (m:Mp α) (v:Value):Prop:=match m with | none=>v=.map none | some l=>∃b es c,v=.map (some b)/\w.heap[b]?=some (.map es c)/\FJ R F w es l
def omap (R:Rep α) (m:Mp α) (v:Value):Atom:=
 ⟨λk=>v=.map (some k),λF w=>RV R F w m v,
  by
   intro F F' w w' C H hf h
   cases m with
   | none=>exact h
   | some l=>have⟨b,es,c,r,I,K⟩:=h;exact⟨b,es,c,r,by rw[hf b r];exact I,K.keep C H⟩⟩
def tmap (R:Rep α) (m:Mp α):Ty:=
 ⟨λF w v=>match m with | none=>v=.map none | some l=>∃b es c,v=.map (some b)/\F b/\w.heap[b]?=some (.map es c)/\FJ R F w es l,
  by
   intro F F' w w' v r C h
   cases m with
   | none=>exact h
   | some l=>have⟨b,es,c,I,H,K,L⟩:=h;exact⟨b,es,c,I,r b H,by rw[C b H];exact K,L.keep r C⟩⟩
def nG {R:Rep α} {m:Mp α}:One (tmap R m):=λF w v h=>by
 cases m with
 | none=>have:v=.map none:=h;rw[this];rfl
 | some l=>have⟨b,es,c,r,_⟩:=h;rw[r];rfl
@[reducible] def rMp (R : Rep α) : Rep (Mp α) := ⟨λm => [tmap R m],1,false,λ_ => rfl,λm T c F w v hv => by simp at c; subst c; exact nG F w v hv,λ_ => rfl⟩
section
variable {m:Mp α} {i:Int}
def F4 (i:Int):IsKey (.int .i64) (.int .i64 i):=rfl
def FJ.keys {l:List (Int×α)} (h:FJ R F w es l):∀e∈es.toList,IsKey (.int .i64) e.key:=λe c=>by have⟨i,x,r,_⟩:=h.all e c;rw[r];exact F4 i
def RW (ht:P.underlying t=some (.map kt et)) (H:P.underlying kt=some (.int .i64)) (hz:(zeroValue et).run P w=.ok z w) {x0:α} (I:(R.ty x0).ok F w z) (h:RV R F w m v) (ok:Bool):
  ∃r,(Instr.lookup t v (.int .i64 i) ok).run P w=.ok (if ok then .tuple #[r,.bool (AY m i).isSome] else r) w/\(R.ty ((AY m i).getD x0)).ok F w r:=by
 cases m with
 | none=>have hv:v=.map none:=h;subst hv;refine⟨z,?_,I⟩;have C:(Instr.checkKey true 10000 kt (.int .i64 i)).run P w=.ok () w:=Go.MapKept.run_checkKey H (F4 i) true 9999;have hf:(Instr.findKey kt (.int .i64 i) ([]:List MapEntry)).run P w=.ok none w:=Go.MapKept.run_findKey H rfl;cases ok<;>simp[Instr.lookup,run_underlying ht,C,hf,hz,AY,Result.andThen]
 | some l=>
  have⟨b,es,c,hv,hb,hm⟩:=h;subst hv;have C:∀e,(Instr.checkKey e 10000 kt (.int .i64 i)).run P w=.ok () w:=λe=>Go.MapKept.run_checkKey H (F4 i) e 9999;rcases findNow_spec (F4 i) es.toList 0 hm.keys with⟨K,L⟩ | ⟨j,e,K,L,X⟩
  ·have V:mget l i=none:=by
    cases Z:mget l i with
    | none=>rfl
    | some u=>have⟨e,he,H⟩:=hm.has i u Z;exact absurd H (L e he)
   refine⟨z,?_,by show (R.ty ((mget l i).getD x0)).ok F w z;rw[V];exact I⟩;have e0:AY (some l) i=none:=V;cases ok<;>simp[Instr.lookup,run_underlying ht,Go.MapKept.run_getObj_map hb,C,Go.MapKept.run_findKey H K,hz,e0,Result.andThen]
  ·have⟨i',u,O,W,h6⟩:=hm.all e (Zo L);rw[X] at O;simp only[Value.int.injEq,true_and] at O;subst O;refine⟨e.val,?_,by show (R.ty ((mget l i).getD x0)).ok F w e.val;rw[W];exact h6⟩;have e0:AY (some l) i=some u:=W;cases ok<;>simp[Instr.lookup,run_underlying ht,Go.MapKept.run_getObj_map hb,C,Go.MapKept.run_findKey H K,e0,Result.andThen]
def Jr (hz:TOk P et R bytes z):(zeroValue et).run P w=.ok z w:=by have⟨ti,c,h,_⟩:=hz.info;simp[zeroValue,typeInfo,c,h]
def Mt {x0:α} (ht:P.underlying t=some (.map kt et)) (C:P.underlying kt=some (.int .i64)) (hz:TOk P et R bytes z) (c:∀F w,(R.ty x0).ok F w z) (hx:Fct Γ x (tv v)) (hi:Fct Γ y (tv (.int .i64 i))):
  OpJ P ⟨d,.lookup t x y false,ty,pos,af,g⟩ Γ [omap R m v] [] (λ_=>[]) (λ_=>R.ty ((AY m i).getD x0)):=
 BY λM w a hU h=>by have H:=hx.val oq h;have I:=hi.val oq h;have⟨r,K,L⟩:=RW (i:=i) ht C (Jr hz) (c (free M w) w) (hU _ (Zi.2 rfl)) false;exact⟨r,by simp only[execOp,H,I,Sem.run_bind,K,Zl,Sem.run_pure];rfl,L⟩
def UI {x0:α} (ht:P.underlying t=some (.map kt et)) (C:P.underlying kt=some (.int .i64)) (hz:TOk P et R bytes z) (c:∀F w,(R.ty x0).ok F w z) (hx:Fct Γ x (tv v)) (hi:Fct Γ y (tv (.int .i64 i))):
  OpJ P ⟨d,.lookup t x y true,ty,pos,af,g⟩ Γ [omap R m v] [] (λ_=>[]) (λ_=>ttup [R.ty ((AY m i).getD x0),tv (.bool (AY m i).isSome)]):=
 BY λM w a hU h=>by have H:=hx.val oq h;have I:=hi.val oq h;have⟨r,K,L⟩:=RW (i:=i) ht C (Jr hz) (c (free M w) w) (hU _ (Zi.2 rfl)) true;exact⟨_,by simp only[execOp,H,I,Sem.run_bind,K,Zl,Sem.run_pure];rfl,[r,.bool (AY m i).isSome],rfl,.cons L (.cons rfl .nil)⟩
def nH (h:(tmap R m).ok F w v):RV R F w m v:=by
 cases m with
 | none=>exact h
 | some l=>have⟨b,es,c,r,_,C,H⟩:=h;exact⟨b,es,c,r,C,H⟩
def UR {x0:α} (ht:P.underlying t=some (.map kt et)) (C:P.underlying kt=some (.int .i64)) (hz:TOk P et R bytes z) (c:∀F w,(R.ty x0).ok F w z) (hx:Fct Γ x (tmap R m)) (hi:Fct Γ y (tv (.int .i64 i))):
  OpJ P ⟨d,.lookup t x y false,ty,pos,af,g⟩ Γ [] [] (λ_=>[]) (λ_=>R.ty ((AY m i).getD x0)):=
 AZ λF w a h=>by have H:=hx.use oq h;have I:=hi.val oq h;have⟨r,K,L⟩:=RW (i:=i) ht C (Jr hz) (c F w) (nH H) false;exact⟨r,by simp only[execOp,I,Sem.run_bind,K,Zl,Sem.run_pure];rfl,L⟩
def Mr (R:Rep α):OpJ P ⟨d,.makeMap t none,ty,pos,af,g⟩ Γ [] [] (λv=>[omap R (some []) v]) (λv=>tv v):=by
 intro M w A I _ _ _ _ _;have c:(execOp A.eval (⟨d,.makeMap t none,ty,pos,af,g⟩:Oper)).run P w=.ok (.value (.map (some w.heap.size))) (w.alloc (.map #[] 0)):=rfl;simp only[Does,c];have hb:=(heap_alloc w (.map #[] 0)).1;refine⟨.map (some w.heap.size),(Step.alloc w _).mono (λ_ h=>h.elim),BX (λk C=>?_) ?_,rfl⟩
 ·have r:Value.map (some w.heap.size)=.map (some k):=C;simp only[Value.map.injEq,ZQ] at r;subst r;exact⟨.inr (Zq _),sm⟩
 ·exact⟨w.heap.size,#[],0,rfl,hb,⟨λe H=>(by simp at H),λi u h=>(by cases h),λn K e e' h=>(by simp at h)⟩⟩
def JP {m':Mp α} (ht:P.underlying t=some (.map kt et)) (W:P.underlying kt=some (.int .i64)) (hx:Fct Γ x (tv v)) (hi:Fct Γ y (tv (.int .i64 i))) (hq:Fct Γ q (R.ty u)) (h:mput m i u=some m'):
  OpJ P ⟨d,.mapUpdate t x y q,ty,pos,af,g⟩ Γ [] [omap R m v] (λ_=>[omap R m' v]) (λ_=>tany):=by
 intro M w A hM _ hE _ _ X;have⟨ho,a9⟩:=hE _ (Zi.2 rfl);have a6:=Cr hE;have h1:=hx.val oq X;have h2:=hi.val oq X;have h3:=hq.use oq X
 cases m with
 | none=>cases h
 | some l=>
  obtain rfl:some (mset l i u)=m':=by simpa[mput] using h
  have⟨b,es,c,hv,hb,hm⟩:=ho;have b0:b<w.heap.size:=(Array.getElem?_eq_some_iff.1 hb).1;have key:∃H c',(Instr.mapUpdate t v (.int .i64 i) (A.eval q)).run P w=.ok () { w with heap:=w.heap.setIfInBounds b (.map H c') }/\FJ R (free M w) w H (mset l i u):=by
   subst hv;rcases findNow_spec (F4 i) es.toList 0 hm.keys with⟨f1,f2⟩ | ⟨j,e,f1,f2,f3⟩
   ·refine⟨es.push ⟨.int .i64 i,A.eval q,c⟩,c+1,by simp[Instr.mapUpdate,run_underlying ht,Go.MapKept.run_getObj_map hb,Go.MapKept.run_checkKey W (F4 i),Go.MapKept.run_findKey W f1,Go.MapKept.run_setObj_map _ hb,Result.andThen],⟨λe X=>?_,λj y hj=>?_,λn n' e e' r a7 K=>?_⟩⟩
    ·simp only[Array.toList_push,ZH,Zi] at X;rcases X with X | rfl
     ·have⟨k,y,g1,g2,g3⟩:=hm.all e X;refine⟨k,y,g1,?_,g3⟩;rw[BO,Zb (λe2=>f2 e X (by rw[g1,e2]))];exact g2
     ·exact⟨i,u,rfl,by rw[BO,Zc rfl],h3⟩
    ·rw[BO] at hj;by_cases e:j=i
     ·subst e;exact⟨_,by rw[Array.toList_push];exact mem_append_right _ (mem_singleton_self _),rfl⟩
     ·rw[Zb e] at hj;have⟨e',a0,b3⟩:=hm.has j y hj;exact⟨e',by rw[Array.toList_push];exact mem_append_left _ a0,b3⟩
    ·rw[Array.toList_push] at r a7;have I:∀(n:Nat) (e:MapEntry),(es.toList++[⟨.int .i64 i,A.eval q,c⟩])[n]?=some e->es.toList[n]?=some e\/(n=es.toList.length/\e.key=.int .i64 i):=λn e h=>by
      rw[getElem?_append] at h;split at h
      ·exact .inl h
      ·rename_i b7;rw[getElem?_singleton] at h;split at h
       ·exact .inr ⟨om,by cases h;rfl⟩
       ·cases h
     rcases I n e r with a | ⟨a1,a2⟩<;>rcases I n' e' a7 with b | ⟨b1,b2⟩
     ·exact hm.one n n' e e' a b K
     ·exact absurd (K.trans b2) (f2 e (Zo a))
     ·exact absurd (K.symm.trans a2) (f2 e' (Zo b))
     ·omega
   ·have hj:es[j]?=some e:=by simpa using f2
    have L:∀n:Nat,(es.modify j λe=>{ e with key:=.int .i64 i,val:=A.eval q }).toList[n]?=if n=j then some { e with key:=.int .i64 i,val:=A.eval q } else es.toList[n]?:=λn=>by
     rw[Array.getElem?_toList,Array.getElem?_modify];by_cases r:n=j
     ·subst r;rw[Zc rfl,Zc rfl,hj];rfl
     ·rw[Zb (λh=>r h.symm),Zb r,Array.getElem?_toList]
    have kk:∀(n:Nat) (e':MapEntry),(es.modify j λe=>{ e with key:=.int .i64 i,val:=A.eval q }).toList[n]?=some e'->∃e0,es.toList[n]?=some e0/\e0.key=e'.key/\(n=j->e'.val=A.eval q)/\(n≠j->e'=e0):=λn e' h=>by
     rw[L] at h;by_cases r:n=j
     ·rw[Zc r] at h;cases h;exact⟨e,by rw[r];exact f2,f3,λ_=>rfl,λh=>(h r).elim⟩
     ·rw[Zb r] at h;exact⟨e',h,rfl,λh=>(r h).elim,λ_=>rfl⟩
    refine⟨es.modify j λe=>{ e with key:=.int .i64 i,val:=A.eval q },c,by simp[Instr.mapUpdate,run_underlying ht,Go.MapKept.run_getObj_map hb,Go.MapKept.run_checkKey W (F4 i),Go.MapKept.run_findKey W f1,hj,f3,run_keyThatStays (F4 i),Go.MapKept.run_setObj_map _ hb,Result.andThen],⟨λe' a0=>?_,λk y a3=>?_,λn n' e1 e2 h1 h2 K=>?_⟩⟩
    ·have⟨n,r⟩:=ZX.1 a0;have⟨e0,g1,g2,g3,g4⟩:=kk n e' r;have⟨k,y,q1,q2,q3⟩:=hm.all e0 (Zo g1);by_cases C:n=j
     ·have:e0=e:=by rw[C,f2] at g1;exact (Zn g1).symm
      subst this;have b8:k=i:=by rw[f3] at q1;simpa using q1.symm
      exact⟨i,u,by rw[<-g2,f3],by rw[BO,Zc rfl],by rw[g3 C];exact h3⟩
     ·have hne:k≠i:=λe2=>C (hm.one n j e0 e g1 f2 (by rw[q1,f3,e2]));exact⟨k,y,by rw[<-g2];exact q1,by rw[BO,Zb hne];exact q2,by rw[g4 C];exact q3⟩
    ·have old:∀e0∈es.toList,∃e'∈(es.modify j λe=>{ e with key:=.int .i64 i,val:=A.eval q }).toList,e'.key=e0.key:=λe0 a4=>by
      have⟨n,r⟩:=ZX.1 a4;by_cases C:n=j
      ·have:e0=e:=by rw[C,f2] at r;exact (Zn r).symm
       subst this;exact⟨_,Zo (by rw[L,Zc C]),f3.symm⟩
      ·exact⟨e0,Zo (i:=n) (by rw[L,Zb C];exact r),rfl⟩
     rw[BO] at a3;by_cases e2:k=i
     ·subst e2;have⟨e',g1,g2⟩:=old e (Zo f2);exact⟨e',g1,by rw[g2];exact f3⟩
     ·rw[Zb e2] at a3;have⟨e0,a4,b4⟩:=hm.has k y a3;have⟨e',g1,g2⟩:=old e0 a4;exact⟨e',g1,by rw[g2];exact b4⟩
    ·have⟨a1,b1,c1,_⟩:=kk n e1 h1;have⟨a2,b2,c2,_⟩:=kk n' e2 h2;exact hm.one n n' a1 a2 b1 b2 (by rw[c1,c2];exact K)
  have⟨H,c',a8,b5⟩:=key;have a5:(execOp A.eval (⟨d,.mapUpdate t x y q,ty,pos,af,g⟩:Oper)).run P w=.ok .skip { w with heap:=w.heap.setIfInBounds b (.map H c') }:=by simp only[execOp,h1,h2,Sem.run_bind,a8,Zl,Sem.run_pure]
  simp only[Does,a5];have O:=heap_set (o':=.map H c') hb;have V:Step (AR [omap R (some l) v]) w { w with heap:=w.heap.setIfInBounds b (.map H c') }:=⟨rfl,rfl,rfl,sm,λk _ b6=>O.2 k (λe=>b6 (AU.2 (by rw[e];exact hv)))⟩;refine⟨undef,V,BX (λk W=>?_) ?_,trivial⟩
  ·have Z:v=.map (some k):=W;refine⟨.inl (AU.2 Z),?_⟩;rw[hv] at Z;simp only[Value.map.injEq,ZQ] at Z;subst Z;simpa using b0
  ·refine⟨b,H,c',hv,O.1,?_⟩;refine FJ.keep (λk W=>?_) (λk W=>O.2 k (λe=>?_)) b5
   ·refine Cp V.size a6 (λB hB j hj=>?_) W;obtain rfl:=Zi.1 hB;exact .inl (AU.2 hj)
   ·exact W.2 (a9 b hv |> λh=>by rw[e];exact h)
def nI (h:(omap R m v).ok F w) (H:∀k,F k->F' k) (r:∀k,(omap R m v).fp k->F' k):(tmap R m).ok F' w v:=by
 cases m with
 | none=>exact h
 | some l=>have⟨b,es,c,C,I,K⟩:=h;exact⟨b,es,c,C,r b C,I,K.keep H (λ_ _=>rfl)⟩
end
section
variable {M:Fr} {m:Mp α}
def St.shareM {s:Nat} (i:Nat) (h:St M w0 n Γ (omap R m v::As) a w) (hi:Γ[i]?=some (s,tv v)):St M w0 n ((s,tmap R m)::Γ) As a w:=by
 have c:=h.sub (sublist_cons_self (omap R m v) As);refine⟨c.size,c.defers,c.grow,c.m0,c.own,c.fresh,c.apart,λp hp=>?_⟩;rcases Zp.1 hp with rfl | hp
 ·have hv:get a s=v:=h.Xp (s,tv v) (Zo hi);show (tmap R m).ok _ _ (get a s);rw[hv];refine nI (h.own (omap R m v) sm) (BC (λk ⟨A,hA,C⟩=>⟨A,by simp[hA],C⟩)) (λk C=>?_);have r:=h.fresh _ sm k C;refine⟨r.2,?_⟩;rintro (hm | ⟨A,hA,H⟩)
  ·have:=h.m0 k hm;rcases r.1 with hb | hb
   ·exact this.2 hb
   ·omega
  ·exact (pairwise_cons.1 h.apart).1 A hA k C H
 ·exact c.Xp p hp
end
end
section
open Go.MapKept
abbrev MpS (α:Type):=Option (List (Str×α))
section
variable {m:MpS α} {i:Str}
end
section
variable {M:Fr} {m:MpS α}
end
end
def ownq (R:Rep α) (e:TypeId) (xs:List α) (v:Value):Atom:=
 ⟨λk=>v.ownBlock=some k,λF w=>(v=.slice none 0 0/\xs=[])\/∃b off cap cur,v=.slice (some ⟨b,off,none⟩) xs.length cap/\w.heap[b]?=some (.cells cur e (0,0))/\xs.length<=cap/\cap<=maxLen/\off+cap * R.n<=cur.size/\QW (xs.flatMap R.cs) F w ((cur.toList.drop off).take (xs.length * R.n)),
  by
   intro F F' w w' r C hf h;rcases h with h | ⟨b,off,cap,cur,c,H,I,K,L,O⟩
   ·exact .inl h
   ·exact .inr ⟨b,off,cap,cur,c,by rw[hf b (by rw[c];rfl)];exact H,I,K,L,O.keep r C⟩⟩
def V5 {xs:List α} (h:(own R e xs v).ok F w):(ownq R e xs v).ok F w:=by
 rcases CG h with⟨hv,hx⟩ | ⟨b,cap,cur,hv,hb,c,r,H,C⟩
 ·exact .inl ⟨hv,hx⟩
 ·exact .inr ⟨b,0,cap,cur,hv,hb,c,r,om,by simpa using C⟩
def V6 {xs:List α} (h:(ownq R e xs v).ok F w) (hx:xs≠[]):∃b off cap,v=.slice (some ⟨b,off,none⟩) xs.length cap/\Row (xs.flatMap R.cs) F w b off:=by
 rcases h with⟨_,h⟩ | ⟨b,off,cap,cur,I,K,L,O,V,r⟩
 ·exact (hx h).elim
 ·refine⟨b,off,cap,I,λj T C=>?_⟩;have H:j<((cur.toList.drop off).take (xs.length * R.n)).length:=by rw[r.1];exact (Zf.1 C).1
  refine⟨((cur.toList.drop off).take (xs.length * R.n))[j],?_,r.2 j T _ C (Zd H)⟩;have c:off+j<cur.size:=by simp at H;omega
  simp[World.cell?,K,c]
section
variable {i:Int}
def fC (ht:P.underlying t=some (.slice e)) (hx:Fct Γ x (tv v)):OpJ P ⟨d,.call { callee:=.builtin .len,args:=#[x],argTypes:=#[t] },ty,pos,af,g⟩ Γ [ownq R e' xs v] [] (λ_=>[]) (λ_=>tv (.int .i64 xs.length)):=
 BY λM w a hU r=>by
  have hl:∃c cap,v=.slice c xs.length cap:=by
   rcases hU _ (Zi.2 rfl) with⟨h,C⟩ | ⟨b,off,cap,cur,h,_⟩
   ·exact⟨none,0,by rw[C];exact h⟩
   ·exact⟨_,cap,h⟩
  have⟨c,cap,hv⟩:=hl;have:=hx.val sc r;exact⟨_,by simp[execOp,resolve,invoke,builtin,Builtin.len_,run_underlying ht,this,hv,goInt],rfl⟩
def fD (ht:P.underlying t=some (.slice e)) (hz:TOk P e R bytes z) (hx:Fct Γ x (tv v)) (hi:Fct Γ y (tv (.int k i))) (h:idx xs i=some u):
  OpJ P ⟨d,.indexAddr t x y,ty,pos,af,g⟩ Γ [ownq R e' xs v] [] (λ_=>[]) (λ_=>tv (AX v (i.toNat * R.n))):=
 BY λM w a hU C=>by
  have hv:=hx.val oq C;have H:=hi.val oq C;unfold idx at h;split at h
  ·rename_i h0;have c:i.toNat<xs.length:=(Zf.1 h).1;have⟨b,off,cap,r,_⟩:=V6 (hU _ (Zi.2 rfl)) (λe=>by rw[e] at c;simp at c);refine⟨_,?_,rfl⟩;subst r;simp only[execOp,hv,H,Sem.run_bind,RC ht hz w rfl h0 (show i<(xs.length:Int) by omega),Zl,Sem.run_pure,AX,Aj]
  ·cases h
def fE (hz:TOk P t R bytes z) (hp:Fct Γ x (tv (AX v (i.toNat * R.n)))) (h:idx xs i=some u):OpJ P ⟨d,.load t x,ty,pos,af,g⟩ Γ [ownq R e' xs v] [] (λ_=>[]) (λ_=>R.ty u):=
 BY λM w a hU K=>by
  have hv:=hp.val oq K;unfold idx at h;split at h
  ·have c:i.toNat<xs.length:=(Zf.1 h).1;have⟨b,off,cap,H,r⟩:=V6 (hU _ (Zi.2 rfl)) (λe=>by rw[e] at c;simp at c);subst H;have⟨v',C,I⟩:=F1 hz (r.elem h);exact⟨v',by simp only[execOp,hv,AX,Aj,Sem.run_bind,C,Zl,Sem.run_pure],I⟩
  ·cases h
def fF (ht:P.underlying t=some (.slice e)) (hz:TOk P e R bytes z) (hx:Fct Γ x (tv v)) (hi:Fct Γ y (tv (.int k i))) (h:sub xs i xs.length=some ys):
  OpJ P ⟨d,.slice t x (some y) none none,ty,pos,af,g⟩ Γ [] [ownq R e' xs v] (λv'=>[ownq R e' ys v']) (λv'=>tv v'):=by
 intro M w A hM _ hE _ _ he;have⟨ho,a5⟩:=hE _ (Zi.2 rfl);have I:=hx.val oq he;have K:=hi.val oq he;have⟨c0,c1,c2,hy,hl⟩:=Gu h;have⟨ti,L,_,hs,_⟩:=hz.info;have O:i.toNat<=xs.length:=by omega
 have V:ys=xs.drop i.toNat:=by rw[hy];exact Zw sm
 have Z:∀k,(ownq R e' xs v).fp k->k<w.heap.size:=λk c=>by
  rcases ho with⟨hv,_⟩ | ⟨b,off,cap,cur,hv,hb,_⟩
  ·rw[hv] at c;cases c
  ·rw[hv] at c;have:b=k:=by simpa[ownq,Value.ownBlock] using c
   rw[<-this];exact (Array.getElem?_eq_some_iff.1 hb).1
 have key:∃v',(execOp A.eval (⟨d,.slice t x (some y) none none,ty,pos,af,g⟩:Oper)).run P w=.ok (.value v') w/\(∀k,(ownq R e' ys v').fp k->(ownq R e' xs v).fp k)/\(ownq R e' ys v').ok (free M w) w:=by
  rcases ho with⟨hv,W⟩ | ⟨b,off,cap,cur,hv,hb,h1,h2,h3,h4⟩
  ·have a0:i=0:=by rw[W] at O;simp at O;omega
   subst hv;subst a0;refine⟨.slice none 0 0,?_,λk c=>c,.inl ⟨rfl,by rw[V,W];rfl⟩⟩;simp[execOp,Instr.sliceAt,run_underlying ht,Instr.slice,I,K,Instr.sliceBounds,run_sliceBound,sizeOf,typeInfo,L,hs]
  ·subst hv;have r:ys.length=xs.length - i.toNat:=by rw[hl];omega
   have a1:(Instr.sliceBounds true xs.length cap (some (.int k i)) none none).run P w=.ok (i.toNat,xs.length,cap) w:=by simp only[Instr.sliceBounds,Sem.run_bind,Sem.run_pure,Zl,run_sliceBound w k i xs.length _ c0 om]
   refine⟨.slice (if cap=i.toNat then some ⟨b,off,none⟩ else some ⟨b,off+i.toNat * R.n,none⟩) (xs.length - i.toNat) (cap - i.toNat),?_,?_,?_⟩
   ·simp[execOp,Instr.sliceAt,run_underlying ht,Instr.slice,I,K,a1,sizeOf,typeInfo,L,hs,Aj]
   ·intro k c;by_cases hc:cap=i.toNat
    ·rw[Zc hc] at c;exact c
    ·rw[Zb hc] at c;exact c
   ·by_cases hc:cap=i.toNat
    ·rw[Zc hc];have:ys=[]:=length_eq_zero_iff.1 om;refine .inr ⟨b,off,cap - i.toNat,cur,by rw[r],hb,om,om,by rw[hc];simp;omega,?_⟩;rw[this];exact⟨sm,λj T u X=>by simp at X⟩
    ·rw[Zb hc];have a4:(cap - i.toNat) * R.n+i.toNat * R.n=cap * R.n:=by rw[<-Nat.add_mul];congr 1;omega
     refine .inr ⟨b,off+i.toNat * R.n,cap - i.toNat,cur,by rw[r],hb,om,om,om,?_⟩;have e1:ys.flatMap R.cs=(xs.flatMap R.cs).drop (i.toNat * R.n):=by rw[V];have:=Row.Xs R xs i.toNat (xs.length - i.toNat) om;rw[Zw sm] at this;rw[this,Zw];rw[Yi,Aw,<-Nat.sub_mul];exact Zq _
     rw[e1];have a6:(xs.length - i.toNat) * R.n+i.toNat * R.n=xs.length * R.n:=by rw[<-Nat.add_mul];congr 1;omega
     refine⟨?_,λj T u X hu=>?_⟩
     ·have:=h4.1;rw[ZY,Yi] at this ⊢;rw[Yi,<-this,r];simp;rw[Aw] at this;omega
     ·rw[getElem?_drop] at X;apply h4.2 (i.toNat * R.n+j) T u X;rw[getElem?_take] at hu ⊢;split at hu
      ·rename_i a2;rw[Zc (by rw[r] at a2;omega),getElem?_drop];rw[getElem?_drop] at hu;rw[<-YC];exact hu
      ·cases hu
 have⟨v',C,H,a3⟩:=key;simp only[Does,C];refine⟨v',Step.refl _ _,BX (λk c=>⟨.inl (AU.2 (H k c)),Z k (H k c)⟩) ?_,rfl⟩;refine Atom.keep _ (λk c=>?_) (λ_ _=>rfl) (λ_ _=>rfl) a3;refine Cp (Zq _) (Cr hE) (λB hB j hj=>?_) c;obtain rfl:=Zi.1 hB;exact .inl (AU.2 (H j hj))
def V7 (b:Nat):∀(vs:List Value) (o:Nat) (w:World) (cur:Array Value),w.heap[b]?=some (.cells cur e (0,0))->o+vs.length<=cur.size->
  ∃c:Array Value,(w.setCells b o vs).heap[b]?=some (.cells c e (0,0))/\c.toList=cur.toList.take o++vs++cur.toList.drop (o+vs.length)/\(∀k,k≠b->(w.setCells b o vs).heap[k]?=w.heap[k]?)/\(w.setCells b o vs).heap.size=w.heap.size/\(w.setCells b o vs).os=w.os/\(w.setCells b o vs).tape=w.tape/\(w.setCells b o vs).output=w.output
 | [],o,w,cur,hb,_=>⟨cur,hb,sm,λ_ _=>rfl,rfl,rfl,rfl,rfl⟩
 | u::vs,o,w,cur,hb,hl=>by
  rw[Zj] at hl;have r:(w.setCell ⟨b,o,none⟩ u).heap[b]?=some (.cells (cur.setIfInBounds o u) e (0,0)):=by simp[World.setCell,Array.getElem?_modify,hb]
  have C:∀k,k≠b->(w.setCell ⟨b,o,none⟩ u).heap[k]?=w.heap[k]?:=λk h=>by simp[World.setCell,Array.getElem?_modify,Ne.symm h]
  have⟨c,g1,g2,g3,H,I,K,L⟩:=V7 b vs (o+1) (w.setCell ⟨b,o,none⟩ u) (cur.setIfInBounds o u) r so;refine⟨c,g1,?_,λk h=>(g3 k h).trans (C k h),H.trans (by simp[World.setCell]),I,K,L⟩;rw[g2,Array.toList_setIfInBounds];have e1:(cur.toList.set o u).take (o+1)=cur.toList.take o++[u]:=by rw[take_add_one,take_set_of_le (Zq _),getElem?_set_self so];rfl
  have e2:(cur.toList.set o u).drop (o+1+vs.length)=cur.toList.drop (o+(vs.length+1)):=by rw[drop_set_of_lt om];congr 1;omega
  rw[e1,e2];simp
def fG (ht:P.underlying t=some (.slice e)) (hz:TOk P e R bytes z) (hb:bytes<=2048) (hx:Fct Γ x (tv v)) (hy:Fct Γ y (tsl R ys)) (hne:ys≠[]) (h:rm (xs.length+ys.length)=some ()):
  OpJ P ⟨d,.call { callee:=.builtin .append,args:=#[x,y],argTypes:=#[t,t] },ty,pos,af,g⟩ Γ [] [ownq R e xs v] (λv'=>[ownq R e (xs++ys) v']) (λv'=>tv v'):=by
 intro M w A hM _ hE _ _ he;have⟨ho,b7⟩:=hE _ (Zi.2 rfl);have b2:=Cr hE;have h1:=hx.val sc he;have⟨ad,c,h2,_,hr⟩:=hy.use sc he;have⟨ti,b3,b8,hs,b9⟩:=hz.info;have a3:xs.length+ys.length<=68719476736:=by unfold rm at h;split at h<;>first | assumption | cases h
 have key:∃v' w',(Builtin.append_ #[t,t] ty #[v,.slice ad ys.length c]).run P w=.ok v' w'/\Step (ownq R e xs v).fp w w'/\(∀k,(ownq R e (xs++ys) v').fp k->((ownq R e xs v).fp k\/w.heap.size<=k)/\k<w'.heap.size)/\(ownq R e (xs++ys) v').ok (λk=>k<w.heap.size/\¬M k) w':=by
  have hF:∀k,free M w k->k<w.heap.size/\¬(ownq R e xs v).fp k:=λk C=>⟨C.1,λhf=>C.2 (b7 k hf)⟩;rcases ho with⟨hv,a4⟩ | ⟨gb,off,cap,cur,hv,V,c1,c2,c3,c4⟩
  ·have c0:(own R e xs v).ok (free M w) w:=⟨[],⟨by rw[a4];simp,.inl ⟨hv,by rw[a4];rfl⟩⟩,by rw[a4];exact .nil⟩;have⟨v',w',H,I,K,a5⟩:=Vg (ty:=ty) (c:=c) (F:=free M w) (F':=λk=>k<w.heap.size/\¬M k) ht hz hb c0 hF (λk C=>C)
    (λhne=>let⟨b,off,ha,_,W⟩:=hr hne;⟨b,off,ha,W⟩) h
   exact⟨v',w',H,I,K,V5 a5⟩
  ·have⟨b,O,ha,_,W⟩:=hr hne;subst ha;subst hv;have⟨r,X,a6⟩:=Jj _ _ W;have Z:r.length=ys.length * ti.size:=by rw[X.1,Aw,hs]
   have a7:∀j u,r[j]?=some u->w.cell? ((⟨b,O,none⟩:Addr).add j)=some u:=λj u hu=>by rw[Aj];exact a6 j u hu
   have b4:∀u∈r,u.oneCell'=true:=by
    intro u hu;have⟨j,hj⟩:=ZX.1 hu;have b5:j<(ys.flatMap R.cs).length:=by rw[<-X.1];exact (Zf.1 hj).1
    have hT:=X.2 j _ u (Zd b5) hj;have⟨q,_,hq⟩:=Ya.1 (Zr b5);exact R.one q _ hq (free M w) w u hT
   have a2:=Src.ofSlice (P:=P) (size:=ti.size) w ht ⟨b,O,none⟩ ys.length c r Z a7 b4;have hoff:∀k:Nat,(ownq R e xs (.slice (some ⟨gb,off,none⟩) xs.length cap)).fp k↔k=gb:=λk=>by show Value.ownBlock _=some k↔_;simp[Value.ownBlock,eq_comm]
   have c9:xs.length * R.n<=cap * R.n:=Nat.mul_le_mul_right _ c1;by_cases a0:xs.length+ys.length<=cap
   ·have g8:xs.length * R.n+ys.length * R.n<=cap * R.n:=by rw[<-Nat.add_mul];exact Nat.mul_le_mul_right _ a0
    have c8:off+xs.length * ti.size+r.length<=cur.size:=by rw[Z,hs];omega
    have H:=run_append_room_src (P:=P) w t t ty e ti ht b3 gb off xs.length cap (.slice (some ⟨b,O,none⟩) ys.length c) ys.length r a2 a0
     (λj hj=>by
      have:off+xs.length * ti.size+j<cur.size:=by omega
      simp[World.cell?,V,this]) (λj hj=>by simp[World.frozen?,V])
    have⟨a1,g1,g2,g3,g4,g5,g6,g7⟩:=V7 gb r (off+xs.length * ti.size) w cur V om;refine⟨_,_,H,⟨g5,g6,g7,by rw[g4];exact Zq _,λk _ C=>g3 k (λe=>C ((hoff k).2 e))⟩,λk C=>?_,.inr ⟨gb,off,cap,a1,by rw[Ze],g1,by rw[Ze];exact a0,c2,?_,?_⟩⟩
    ·have:k=gb:=by
      have a8:Value.ownBlock _=some k:=C;simpa[Value.ownBlock,eq_comm] using a8
     refine⟨.inl ((hoff k).2 this),?_⟩;rw[g4,this];exact (Array.getElem?_eq_some_iff.1 V).1
    ·have:=ZU length g2;simp at this;rw[Array.length_toList] at *;omega
    ·have e1:(a1.toList.drop off).take ((xs++ys).length * R.n)=(cur.toList.drop off).take (xs.length * R.n)++r:=by
      have a9:((cur.toList.drop off).take (xs.length * R.n)).length=xs.length * R.n:=by simp;omega
      have e2:a1.toList.drop off=(cur.toList.drop off).take (xs.length * R.n)++r++cur.toList.drop (off+xs.length * R.n+r.length):=by rw[g2,hs,ZJ,drop_append_of_le_length so,<-ZJ];congr 2;rw[drop_take];congr 1;omega
      rw[e2];apply take_left';rw[Ze,a9,Z,hs,Ze,Nat.add_mul]
     rw[e1,ZM];exact (c4.append X).Xr (λk C=>C) (λk C=>g3 k (λe=>(hF k C).2 ((hoff k).2 e)))
   ·have b6:(xs.length+ys.length) * ti.bytes<=140737488355328:=by
     rw[b9]
     calc (xs.length+ys.length) * bytes<=68719476736 * 2048:=Nat.mul_le_mul a3 hb
      _<=140737488355328:=by omega
    have L:((cur.toList.drop off).take (xs.length * R.n)).length=xs.length * ti.size:=by rw[hs];simp;omega
    have b0:∀j u,((cur.toList.drop off).take (xs.length * R.n))[j]?=some u->w.drew.cell? ((⟨gb,off,none⟩:Addr).add j)=some u:=by
     intro j u hu;rw[getElem?_take] at hu;split at hu
     ·rw[Aj];rw[getElem?_drop] at hu;have:w.cell? ⟨gb,off+j,none⟩=some u:=by simpa[World.cell?,V] using hu
      simpa using this
     ·cases hu
    have hold:=run_firstCells_some (P:=P) w.drew ti.size xs.length ⟨gb,off,none⟩ xs.length cap _ L b0;have H:=run_append_grow_src (P:=P) w t t ty e ti z ht b3 b8 (some ⟨gb,off,none⟩) xs.length cap _ hold (.slice (some ⟨b,O,none⟩) ys.length c) ys.length r a2 om om (growslice_fits om b6);have c5:=grownCap_ge w (xs.length+ys.length) cap e;have c6:=grownCap_le_maxLen w (xs.length+ys.length) cap e (by unfold maxLen;omega);refine⟨_,_,H,⟨rfl,rfl,rfl,sm,λk C _=>Go.RowKit.Below.heap_alloc w.drew _ k C⟩,λk C=>?_,.inr ⟨w.heap.size,0,_,_,by rw[Ze],heap_alloc_new w.drew _,by rw[Ze];exact c5,c6,?_,?_⟩⟩
    ·have a8:Value.ownBlock _=some k:=C;have:w.heap.size=k:=by simpa[Value.ownBlock] using a8
     subst this;exact⟨.inr (Zq _),sm⟩
    ·have c7:z.cells.size=R.n:=hz.zc;simp only[Array.size_append,size_toArray,size_zeroCells,Ze,L,Z,c7,hs,<-Nat.add_mul,Nat.zero_add];apply Nat.le_of_eq;congr 1;omega
    ·have e1:((((cur.toList.drop off).take (xs.length * R.n)++r).toArray++Builtin.zeroCells z.cells (grownCap w (xs.length+ys.length) cap e - (xs.length+ys.length))).toList.drop 0).take ((xs++ys).length * R.n)=(cur.toList.drop off).take (xs.length * R.n)++r:=by
      rw[drop_zero,Array.toList_append];apply take_left';rw[Ze,L,Z,hs,Ze,Nat.add_mul]
     rw[e1,ZM];exact (c4.append X).Xr (λk C=>C) (λk C=>Go.RowKit.Below.heap_alloc w.drew _ k (hF k C).1)
 have⟨v',w',H,I,K,a5⟩:=key;have b1:(execOp A.eval (⟨d,.call { callee:=.builtin .append,args:=#[x,y],argTypes:=#[t,t] },ty,pos,af,g⟩:Oper)).run P w=.ok (.value v') w':=by simp only[execOp,resolve,invoke,builtin,Sem.run_bind,Sem.run_pure,Zl,map_toArray,Ys,Yy,h1,h2,H]
 simp only[Does,b1];refine⟨v',I.mono (λk C=>AU.2 C),BX (λk C=>⟨(K k C).1.imp AU.2 id,(K k C).2⟩) ?_,rfl⟩;refine Atom.keep _ (λk C=>?_) (λ_ _=>rfl) (λ_ _=>rfl) a5;refine Cp I.size b2 (λB hB j hj=>?_) C;obtain rfl:=Zi.1 hB;exact (K j hj).1.imp AU.2 id
end
section
variable {q:Value}
def CF.boxP (k:Nat) (h:Fct Γ x (tv q)) (hU:Sim.box Ts q∈U) (V:Sim.own R e xs v∈U) (W:Ts[k]?=some (tvs v)):CF Γ U x (tptr (Ts.set k (tsl R xs))):=by
 intro F F' w a L hA h0;have hv:a.eval x=q:=h F w a h0;have⟨C,H⟩:=hA _ hU;rw[hv];have⟨b,off,e1,e2,O⟩:=RJ C L H;refine⟨b,off,e1,e2,λj T c=>?_⟩;rw[getElem?_set] at c;split at c
 ·rename_i X;subst X;split at c
  ·cases c;have⟨u,hu,I⟩:=O k (tvs v) W;have K:u=v:=I.1;subst K;exact⟨u,hu,CF.own (x:=.tmp 0) (Γ:=[(0,tv u)]) (U:=[Sim.own R e xs u]) (R:=R) (e:=e) (xs:=xs) (v:=u) (Fct.t 0 rfl) sm F F' w ⟨#[u],[]⟩ L (λA r=>by simp at r;subst r;exact hA _ V) (λp hp _=>by simp at hp;subst hp;rfl)⟩
  ·cases c
 ·exact O j T c
end
section
variable {M:Fr}
def St.toQ (h:St M w0 n Γ (Sim.own R e xs v::As) a w):St M w0 n Γ (ownq R e xs v::As) a w:=by
 have r:fps (ownq R e xs v::As)=fps (Sim.own R e xs v::As):=by
  funext j
  unfold fps;simp only[Zp,exists_eq_or_imp];rfl
 have e2:hold M.m (ownq R e xs v::As)=hold M.m (Sim.own R e xs v::As):=by unfold hold;rw[r]
 refine⟨h.size,h.defers,h.grow,h.m0,λZ c=>?_,λZ c=>?_,?_,by rw[e2];exact h.Xp⟩
 ·rw[e2];rcases Zp.1 c with rfl | c
  ·exact V5 (h.own _ sm)
  ·exact h.own Z (by simp[c])
 ·rcases Zp.1 c with rfl | c
  ·exact h.fresh (Sim.own R e xs v) sm
  ·exact h.fresh Z (by simp[c])
 ·have ha:=h.apart;unfold BA at ha ⊢;rw[pairwise_cons] at ha ⊢;exact⟨λZ c k C=>ha.1 Z c k C,ha.2⟩
end
def SE (P:Program) (s:TypeId) (f off:Nat):Prop:=∃c fd h,P.underlying s=some (.struct c)/\c[f]?=some fd/\fd.offset=off/\P.underlying fd.type=some h/\G2 h=false
def nJ {P:Program} {t:TypeId} {c:TypeDesc} (h:P.underlying t=some c) (r:G2 c=false):(isAgg t).run P w=.ok false w:=by
 cases c with
 | struct=>cases r
 | array=>cases r
 | _=>simp[isAgg,run_underlying h]
def fP {s:TypeId} {f off:Nat} {T:Ty} (hf:SE P s f off) (hx:Fct Γ x (tagg Ts)) (c:Ts[off]?=some T):OpJ P ⟨d,.field s x f,ty,pos,af,g⟩ Γ [] [] (λ_=>[]) (λ_=>T):=
 AZ λF w a h=>by
  have⟨L,fd,O,r,C,H,I,K⟩:=hf;have⟨cs,hv,hc⟩:=hx.use oq h;have hl:off<cs.length:=by rw[hc.1];exact (Zf.1 c).1
  refine⟨cs[off],?_,hc.2 off T _ c (by simp[hl])⟩;simp[execOp,hv,Instr.field,run_underlying r,C,H,part,nJ I K,asAgg,hl]
def Ug {q v0 c:Value} (hz:TOk P t rVal bytes z) (hp:Fct Γ x (tv c)) (hy:Fct Γ y (tv q)):
  OpJ P ⟨d,.store t x y,ty,pos,af,g⟩ Γ [box Ts q] [box [tvs v0] c] (λ_=>[box [tvs q] c]) (λ_=>tany):=
 .say (A:=box Ts q) sm (λ_ _ h=>V4 h) λr=>(Ec (R:=rVal) (a:=q) (Ts:=[tvs v0]) hz hp (hy.Xo λ_ _ _ h=>⟨h,r⟩) (Zq _)).Xq (λA hA=>by cases hA)
def zokPf:∀F w,(rVal.ty .nilFunc).ok F w .nilFunc:=λ_ _=>⟨rfl,rfl⟩
def zokP:∀F w,(rVal.ty (.pointer none)).ok F w (.pointer none):=λ_ _=>⟨rfl,rfl⟩
def Pt {m:Mp α} (h:∀x,DC (R.ty x)):Ek (omap R m v):=λF F' w C=>by
 cases m with
 | none=>exact C
 | some l=>have⟨b,es,c,H,I,r⟩:=C;exact⟨b,es,c,H,I,λe K=>let⟨i,x,a1,a2,a3⟩:=r.all e K;⟨i,x,a1,a2,h x F F' w _ a3⟩,r.has,r.one⟩
def flatN2 (h:Ek A) (r:Ek B):∀C∈[A,B],Ek C:=λC c=>by
 rcases Zp.1 c with rfl | c
 ·exact h
 ·obtain rfl:=Zi.1 c;exact r
section
variable {m:Mp α}
def gS {t2:TypeId} (ht:P.underlying t=some (.map kt et)) (hx:Fct Γ x (tv v)):OpJ P ⟨d,.binOp .eql t x (.const (.map none)) t2,ty,pos,af,g⟩ Γ [omap R m v] [] (λ_=>[]) (λ_=>tv (.bool m.isNone)):=
 BY λM w a hU r=>by
  have c:=hx.val oq r;have h:(omap R m v).ok (free M w) w:=hU _ (Zi.2 rfl);have hv:∃b:Option Nat,v=.map b/\b.isNone=m.isNone:=by
   cases m with
   | none=>exact⟨none,h,rfl⟩
   | some l=>have⟨b,_,_,c,_⟩:=h;exact⟨some b,c,rfl⟩
  have⟨b,hv,hb⟩:=hv;subst hv;refine⟨.bool b.isNone,?_,by rw[hb];rfl⟩;simp[execOp,c,H7,eqGuard,binOp,run_equal_map_nil w t kt et b ht]
end
section
variable {M:Fr}
def St.nilM (R:Rep α) (h:St M w0 n Γ As a w):St M w0 n Γ (omap R none (.map none)::As) a w:=by
 have hf:∀k,fps (omap R none (.map none)::As) k->fps As k:=by
  rintro k ⟨A,hA,c⟩;rcases Zp.1 hA with rfl | hA
  ·cases c
  ·exact⟨A,hA,c⟩
 refine⟨h.size,h.defers,h.grow,h.m0,?_,?_,?_,λp hp=>p.2.keep (BC hf) (λ_ _=>rfl) (h.Xp p hp)⟩
 ·intro A hA;rcases Zp.1 hA with rfl | hA
  ·rfl
  ·exact A.keep (BC hf) (λ_ _=>rfl) (λ_ _=>rfl) (h.own A hA)
 ·intro A hA k c;rcases Zp.1 hA with rfl | hA
  ·cases c
  ·exact h.fresh A hA k c
 ·refine pairwise_cons.2 ⟨λB _ k c=>?_,h.apart⟩;cases c
end
def BD (As:List Atom):Atom:=⟨fps As,λF w=>(∀A∈As,A.ok F w)/\BA As,λc r hf h=>⟨λA hA=>A.keep c r (λk C=>hf k ⟨A,hA,C⟩) (h.1 A hA),h.2⟩⟩
def IB:AR [BD E]=AR E:=by
 funext k
 exact propext ⟨λ⟨A,hA,c⟩=>by obtain rfl:=Zi.1 hA;exact c,λh=>⟨_,Zi.2 rfl,h⟩⟩
def RX {N:List Atom}:next M [BD E] [BD N]=next M E N:=by unfold next;rw[IB,IB]
def nK (h:DL M E w) (c:BA E):DL M [BD E] w:=λA hA=>by obtain rfl:=Zi.1 hA;exact⟨⟨λB r=>(h B r).1,c⟩,λk ⟨B,r,C⟩=>(h B r).2 k C⟩
def mG (h:DL M [BD E] w):DL M E w/\BA E:=
 have:=h _ (Zi.2 rfl)
 ⟨λA hA=>⟨this.1.1 A hA,λk c=>this.2 k ⟨A,hA,c⟩⟩,this.1.2⟩
def mH {N:List Atom} (h:Made M E N w w'):Made M [BD E] [BD N] w w':=
 ⟨pairwise_singleton _ _,λA hA k c=>by
  obtain rfl:=Zi.1 hA;have⟨B,r,c⟩:=c;rw[IB];exact h.place B r k c,λA hA=>by
  obtain rfl:=Zi.1 hA;rw[RX];exact⟨h.ok,h.apart⟩⟩
def nL {N:List Atom} (h:Made M [BD E] [BD N] w w'):Made M E N w w':=by have c:=h.ok _ (Zi.2 rfl);rw[RX] at c;exact⟨c.2,λA hA k r=>by have:=h.place _ (Zi.2 rfl) k ⟨A,hA,r⟩;rwa [IB] at this,c.1⟩
section
variable {M:Fr}
def FnOk.unjoin {f:FuncId} (h:FnOk P f Ts [BD E] (λx=>[BD (N x)]) T):FnOk P f Ts E N T:=λM w vs r C c hc=>Calls.mono (h M w vs r (nK C c) (pairwise_singleton _ _) hc) (λe w' ⟨x,v,H,I,hm,ht⟩=>⟨x,v,H,by rwa [IB] at I,nL hm,by rwa [RX] at ht⟩)
def RB (E:List Atom) (M0:Blk) (b:Bool) (N:Value->List Atom) (w:World):Ending->World->Prop:=λe w'=>∃x,e=.returned (.bool b)/\Step (AR E) w w'/\Made M0 E (N x) w w'
inductive Js:Code->Exit->Prop where
 | ret:Js .ret .ret
 | exit (id:Nat):Js (.exit id) (.exit id)
def mL {l:Nat} {h:FuncId} {D:Nat} (x:Value) (is:List Nat) (r:A4 M0 E M) (c:St M w0 n Γ (CI l { A0 h tmps ps assign body D with state:=.busy } Γl::As) a w) (C:Bj is=true) (H:is.filterMap (λi=>(CI l (A0 h tmps ps assign body D) Γl::As)[i]?)=N x):roundPost P l (RB E M0 true N w0) .normal a w:=
 ⟨_,_,run_endRound none (c.own _ (Zs ..)).1,x,rfl,RU is r (c.putL (A0 h tmps ps assign body D) rfl) C H⟩
def mM {l:Nat} {r:FuncId} {D:Nat} {jump:Code} {jx:Exit} (I:Js jump jx) (x:Value) (is:List Nat) (h:A4 M0 E M) (c:St M w0 n Γ (CI l { A0 r tmps ps assign body D with state:=.busy } Γl::As) a w) (C:Bj is=true) (H:is.filterMap (λi=>(CI l { A0 r tmps ps assign body D with state:=.done,pending:=some jump } Γl::As)[i]?)=N x):roundPost P l (RB E M0 false N w0) jx a w:=by
 cases I with
 | ret=>exact⟨_,_,run_endRound (some .ret) (c.own _ (Zs ..)).1,x,rfl,RU is h (c.putL { A0 r tmps ps assign body D with state:=.done,pending:=some .ret } rfl) C H⟩
 | exit id=>exact⟨_,_,run_endRound (some (.exit id)) (c.own _ (Zs ..)).1,x,rfl,RU is h (c.putL { A0 r tmps ps assign body D with state:=.done,pending:=some (.exit id) } rfl) C H⟩
section
variable {S:Type} {A:S->Value->List Atom} {p:Tmp} {jump:Code} {jx:Exit} {Y:S->Int->Option (S⊕S)} {s0:S} {g0:Value} {t:S⊕S} {f1:FuncId} {Tc:List Ty} {g:Operand}
def recW (A:S->Value->List Atom) (l:Nat) (r:Loop) (jump:Code) (Γ:List (Nat×Ty)):S⊕S->Value->List Atom
 | .inl s,x=>CI l r Γ::A s x
 | .inr s,x=>CI l { r with state:=.done,pending:=some jump } Γ::A s x
end
section
variable {l m:Nat} {F:Fence}
def gQ {id:Nat} {c:Code} (h:c.wpIn F m P (Exit.inBlock id Q) a w):(Code.block id c).wpIn F m P Q a w:=wpIn_block h
def Ui {l:Nat} {id:Nat} (hm:P.follows .mixedOrders=true) (h:List Ver) (C:St M w0 n Γ As a w) (r:∀new,Run P ops (verA As h) new 0 Γ ops is) (c:(V3 ops&&chk ops is ((verA As h).map (·.ds)) (Γ.map (·.1)) As.length (verA As h).length n)=true) (I:∀new H w',St M w0 n (outG ops is Γ new) (Cb (verA As h) is new) H w'->Q .normal H w'):(Code.region id ops.toArray draw).wpIn (Fence.wide.inRound l) 0 P Q a w:=
 wp_rgR hm (by have:=c;simp only[Zh] at this;exact this.1) h C r (by have:=c;simp only[Zh] at this;exact this.2) I
end
def hH {c:Func} {rs:List ResultVar} {D:Nat} (x:Value) (is:List Nat) (r:Jt M0 E D M) (C:St M w0 n Γ (objA D defO::As) a w) (H:c.results=rs.toArray) (h:CH P Γ (objA D (.deferred none)::As) rs Ts) (I:Bj is=true) (K:is.filterMap (λi=>(objA D (.deferred none)::As)[i]?)=N x) (L:T x=FI Ts):RetM P c M0 E w0 N T .ret a w:=show RetM P c M0 E w0 N T .normal a w from nF x is r C H h I K L
end
section
variable {zs:List α}
section
variable {o:Oper}
end
section
variable {M:Fr}
def St.reA (r:B.fp=A.fp) (C:∀F w,A.ok F w->B.ok F w) (h:St M w0 n Γ (A::As) a w):St M w0 n Γ (B::As) a w:=by
 have e:fps (B::As)=fps (A::As):=by funext j;unfold fps;simp[r]
 have e2:hold M.m (B::As)=hold M.m (A::As):=by unfold hold;rw[e]
 refine⟨h.size,h.defers,h.grow,h.m0,?_,?_,?_,by rw[e2];exact h.Xp⟩
 ·rw[e2];intro Z c;rcases Zp.1 c with rfl | c
  ·exact C _ _ (h.own A sm)
  ·exact h.own Z (by simp[c])
 ·intro Z c;rcases Zp.1 c with rfl | c
  ·rw[r];exact h.fresh A sm
  ·exact h.fresh Z (by simp[c])
 ·have ha:=h.apart;unfold BA at ha ⊢;rw[pairwise_cons] at ha ⊢;refine⟨λZ c=>?_,ha.2⟩;rw[r];exact ha.1 Z c
end
end
section
variable {M:Fr}
def St.swapA (h:St M w0 n Γ (A::As) a w) (r:∀k,B.fp k->A.fp k) (H:∀F,(∀k,free (hold M.m (A::As)) w k->F k)->A.ok (free (hold M.m (A::As)) w) w->B.ok F w):St M w0 n Γ (B::As) a w:=by
 have hf:∀j,fps (B::As) j->fps (A::As) j:=by
  rintro j ⟨Z,c,I⟩;rcases Zp.1 c with rfl | c
  ·exact⟨A,sm,r j I⟩
  ·exact⟨Z,by simp[c],I⟩
 refine⟨h.size,h.defers,h.grow,h.m0,?_,?_,?_,λp hp=>p.2.keep (BC hf) (λ_ _=>rfl) (h.Xp p hp)⟩
 ·intro Z c;rcases Zp.1 c with rfl | c
  ·exact H _ (BC hf) (h.own A sm)
  ·exact Z.keep (BC hf) (λ_ _=>rfl) (λ_ _=>rfl) (h.own Z (by simp[c]))
 ·intro Z c k C;rcases Zp.1 c with rfl | c
  ·exact h.fresh A sm k (r k C)
  ·exact h.fresh Z (by simp[c]) k C
 ·have ha:=pairwise_cons.1 h.apart;exact pairwise_cons.2 ⟨λZ c k C=>ha.1 Z c k (r k C),ha.2⟩
end
section
variable {m:MpS α}
end
section
variable {k:Nat} {q:Value} {i:Int} {o:Option Value} {xs zs:List (α×Option Value)}
end
section
variable {M:Fr} {l:List Atom}
def nM:fps (BD l::As)=fps (l++As):=by
 funext k
 apply propext;constructor
 ·rintro ⟨A,hA,c⟩;rcases Zp.1 hA with rfl | hA
  ·have⟨B,h,c⟩:=c;exact⟨B,mem_append_left _ h,c⟩
  ·exact⟨A,mem_append_right _ hA,c⟩
 ·rintro ⟨A,hA,c⟩;rcases ZH.1 hA with hA | hA
  ·exact⟨BD l,sm,A,hA,c⟩
  ·exact⟨A,ZE _ hA,c⟩
def V8 {m:Blk}:hold m (BD l::As)=hold m (l++As):=by unfold hold;rw[nM]
def St.unjoin (h:St M w0 n Γ (BD l::As) a w):St M w0 n Γ (l++As) a w:=by
 have H:=h.own (BD l) sm;have c:=pairwise_cons.1 h.apart;have I:hold M.m (BD l::As)=hold M.m (l++As):=V8;refine⟨h.size,h.defers,h.grow,h.m0,?_,?_,?_,by rw[<-I];exact h.Xp⟩
 ·rw[<-I];intro A hA;rcases ZH.1 hA with hA | hA
  ·exact H.1 A hA
  ·exact h.own A (ZE _ hA)
 ·intro A hA k r;rcases ZH.1 hA with hA | hA
  ·exact h.fresh (BD l) sm k ⟨A,hA,r⟩
  ·exact h.fresh A (ZE _ hA) k r
 ·exact pairwise_append.2 ⟨H.2,c.2,λA hA B K k r C=>c.1 B K k ⟨A,hA,r⟩ C⟩
def St.join (h:St M w0 n Γ (l++As) a w):St M w0 n Γ (BD l::As) a w:=by
 have⟨I,K,L⟩:=pairwise_append.1 h.apart;have H:hold M.m (BD l::As)=hold M.m (l++As):=V8;refine⟨h.size,h.defers,h.grow,h.m0,?_,?_,?_,by rw[H];exact h.Xp⟩
 ·rw[H];intro A hA;rcases Zp.1 hA with rfl | hA
  ·exact⟨λB r=>h.own B (mem_append_left _ r),I⟩
  ·exact h.own A (mem_append_right _ hA)
 ·intro A hA k c;rcases Zp.1 hA with rfl | hA
  ·have⟨B,r,c⟩:=c;exact h.fresh B (mem_append_left _ r) k c
  ·exact h.fresh A (mem_append_right _ hA) k c
 ·refine pairwise_cons.2 ⟨λB r k c C=>?_,K⟩;have⟨A,hA,c⟩:=c;exact L A hA B r k c C
end
section
variable {M:Fr} {k:Nat} {e2:TypeId} {q:Value} {i:Int} {ys:List β} {xs:List (α×Option Value)}
end
def non {i:α}:(none:Option α)≠some i:=λh=>by cases h
def dh:Value->Value | .agg a=>a.getD 0 nilV | v=>v
def ds (g:Value) (i:Nat):Value:=match g with | .agg a=>a.getD (i+1) nilV | _=>nilV
def dmk (h:Value) (l:List Value):Value:=.agg (h::l).toArray
def dset (n:Nat) (g:Value) (i:Nat) (x:Value):Value:=dmk (dh g) ((range n).map λj=>if j=i then x else ds g j)
def BW (n:Nat) (g:Value) (h x:Value):Value:=dmk h ((range n).map (ds g)++[x])
def Jv {h:Value} {l:List Value}:dh (dmk h l)=h:=by simp[dmk,dh]
def Gw {h:Value} {l:List Value}:ds (dmk h l) i=l.getD i nilV:=by simp[dmk,ds,Array.getD_eq_getD_getElem?,Zg]
def IC {n:Nat} {g:Value} {x:Value}:dh (dset n g i x)=dh g:=Jv
def Jw {n:Nat} {g:Value} {x:Value} (h:j<n):ds (dset n g i x) j=if j=i then x else ds g j:=by unfold dset;rw[Gw,Zg,Yc,Yz h];rfl
def RY {n:Nat} {g:Value} {x:Value} (h:i<n):ds (dset n g i x) i=x:=by rw[Jw h,Zc rfl]
def Gy {n:Nat} {g h x:Value} (c:j<n):ds (BW n g h x) j=ds g j:=by unfold BW;rw[Gw,Zg,Zv (sa c),Yc,Yz c];rfl
def Jx {n:Nat} {g h x:Value}:ds (BW n g h x) n=x:=by unfold BW;rw[Gw,Zg,ZA sm];simp
structure DRep (α:Type) where
 S:Rep α
 cs:α->Value->List Ty
 lo:α->Value->Atom
 len:∀x g,(cs x g).length=S.n
 one:∀x g T,T∈cs x g->∀F w v,T.ok F w v->v.oneCell'=true
 cl:∀{x:α} {g:Value} {F F':Blk} {w:World},(∀k,F k->F' k)->(lo x g).ok F w->(∀k,(lo x g).fp k->F' k)->∀(i:Nat) (T T':Ty),(cs x g)[i]?=some T->(S.cs x)[i]?=some T'->∀u,T.ok F w u->T'.ok F' w u
variable {D:DRep α}
@[reducible] def drep (D : DRep α): Rep (α × Value) := ⟨λp => D.cs p.1 p.2,D.S.n,D.S.agg,λp => D.len p.1 p.2,λp => D.one p.1 p.2,D.S.sz⟩
def zg (xs:List α) (g:Value):List (α×Value):=xs.zipIdx.map λp=>(p.1,ds g p.2)
section
variable {g:Value} {i:Int} {x y:α}
def Bq:(zg xs g).length=xs.length:=by simp[zg]
def D6:(zg xs g)[j]?=(xs[j]?).map λx=>(x,ds g j):=by simp only[zg,Yc,getElem?_zipIdx,Option.map_map,Nat.zero_add];rfl
def RZ (h:idx xs i=some x):idx (zg xs g) i=some (x,ds g i.toNat):=by have⟨h0,_,c⟩:=F3 h;unfold idx;rw[Zc h0,D6,c];rfl
def Nm (h:setAt xs i y=some ys):0<=i/\i.toNat<xs.length/\ys=xs.set i.toNat y:=by
 unfold setAt at h;split at h
 ·rename_i hc;exact⟨hc.1,om,(Zn h).symm⟩
 ·cases h
def zg_set (h:setAt xs i y=some ys) (r:∀j,j<xs.length->j≠i.toNat->ds g' j=ds g j):setAt (zg xs g) i (y,ds g' i.toNat)=some (zg ys g'):=by
 obtain⟨h0,C,rfl⟩:=Nm h;unfold setAt;rw[Zc ⟨h0,by rw[Bq];omega⟩];congr 1;apply ext_getElem?;intro j;rw[getElem?_set,D6 (xs:=xs.set i.toNat y),getElem?_set,Bq];by_cases c:i.toNat=j
 ·subst c;simp[C]
 ·rw[Zb c,Zb c,D6]
  cases hx:xs[j]? with
  | none=>rfl
  | some u=>simp[r j (Zf.1 hx).1 (λe=>c e.symm)]
def Nn (h:(xs++[y])[j]?=some x):(xs[j]?=some x/\j<xs.length)\/(j=xs.length/\x=y):=by
 rcases Nat.lt_trichotomy j xs.length with c | c | c
 ·rw[Zv c] at h;exact .inl ⟨h,c⟩
 ·subst c;rw[ZA (Zq _),Nat.sub_self] at h;exact .inr ⟨rfl,(Zn h).symm⟩
 ·rw[getElem?_eq_none so] at h;cases h
def V9 (v:Value) (m:Nat):padd (AX v m) 0=AX v m:=by unfold AX padd;split<;>rename_i h<;>split at h<;>simp_all[Addr.add]
def nN:zg (xs++[y]) (BW xs.length g v gy)=zg xs g++[(y,gy)]:=by
 apply ext_getElem?;intro j;rw[D6];rcases Nat.lt_trichotomy j xs.length with h | h | h
 ·rw[Zv h,Zv (by rw[Bq];exact h),D6,Gy h]
 ·subst h;rw[ZA (Zq _),ZA (by rw[Bq];exact Zq _),Bq,Jx];simp
 ·rw[getElem?_eq_none so,getElem?_eq_none (by simp[Bq];omega)];rfl
end
def Ad (D:DRep α) (e:TypeId) (xs:List α) (g:Value) (o:Option Nat):Atom:=
 ⟨λk=>(dh g).ownBlock=some k\/∃i x,o≠some i/\xs[i]?=some x/\(D.lo x (ds g i)).fp k,
  λF w=>(own (drep D) e (zg xs g) (dh g)).ok F w/\(∀i x,o≠some i->xs[i]?=some x->(D.lo x (ds g i)).ok F w/\∀k,(D.lo x (ds g i)).fp k->¬(dh g).ownBlock=some k)/\∀i j x y,i≠j->o≠some i->o≠some j->xs[i]?=some x->xs[j]?=some y->∀k,(D.lo x (ds g i)).fp k->¬(D.lo y (ds g j)).fp k,
  λr C hf ⟨I,H,K⟩=>⟨Atom.keep _ r C (λk c=>hf k (.inl c)) I,λi x h hx=>⟨Atom.keep _ r C (λk c=>hf k (.inr ⟨i,x,h,hx,c⟩)) (H i x h hx).1,(H i x h hx).2⟩,K⟩⟩
abbrev deep {α:Type} (D:DRep α) (e:TypeId) (xs:List α) (g:Value):Atom:=Ad D e xs g none
structure Part (A B:Atom):Prop where
 ok:∀F w,B.ok F w->A.ok F w
 sub:∀k,A.fp k->B.fp k
def Part.refl:Part A A:=⟨λ_ _ h=>h,λ_ h=>h⟩
def Gt.refl {A':Atom} (h:∀k,A'.fp k↔A.fp k):Gt A A' A A':=⟨λ_ _ h=>h,λ_ h=>h,h,h,λ_ _ _ _ h=>h⟩
section
variable {o:Oper}
def OpJ.part (p:Part A B) (h:OpJ P o Γ (A::U) E N T):OpJ P o Γ (B::U) E N T:=h.Xt p.ok p.sub
def OpJ.over {A' Z:Value->Atom} (a0:∀F w,(∀C∈E,C.ok F w)->BA E->A.ok F w) (c:∀k,A.fp k->AR E k) (I:∀{F w},(∀C∈E,C.ok F w)->BA E->∀x k,(Z x).fp k->(A' x).fp k\/AR E k/\¬A.fp k) (W:∀{x:Value} {F F':Blk} {w w':World},(∀C∈E,C.ok F w)->BA E->(∀k,F k->F' k)->(∀k,F k->w'.heap[k]?=w.heap[k]?)->(∀k,AR E k->¬A.fp k->w'.heap[k]?=w.heap[k]?)->(∀k,(A' x).fp k->AR E k->A.fp k)->(A' x).ok F' w'->(Z x).ok F' w') (h:OpJ P o Γ U [A] (λx=>[A' x]) T):OpJ P o Γ U E (λx=>[Z x]) T:=by
 intro M w a hM hU hE X a1 he;have H:=Cr hE;have I:=I (λC L=>(hE C L).1) X;have hA:DL M [A] w:=λC L=>by obtain rfl:=Zi.1 L;exact⟨a0 _ _ (λB hB=>(hE B hB).1) X,λk r=>H k (c k r)⟩
 refine (h M w a hM hU hA (pairwise_singleton _ _) (λC L D hD k r a2=>?_) he).mono ?_
 ·obtain rfl:=Zi.1 hD;have⟨B,hB,a3⟩:=c k a2;exact a1 C L B hB k r a3
 ·rintro v w' ⟨x,hs,hm,ht⟩;have O:=λk r=>hm.place (A' x) (Zi.2 rfl) k r;have a4:∀k,next M E [Z x] k->next M [A] [A' x] k:=by
   rintro k (⟨r,hn⟩ | r)
   ·exact .inl ⟨r,λh=>hn (c k (AU.1 h))⟩
   ·rcases I x k (AU.1 r) with h | ⟨V,h2⟩
    ·exact .inr (AU.2 h)
    ·exact .inl ⟨H k V,λh=>h2 (AU.1 h)⟩
  have K:∀k,free (next M [A] [A' x]) w' k->free (next M E [Z x]) w' k:=λk ⟨V,h2⟩=>⟨V,λh=>h2 (a4 k h)⟩;have a5:∀k,(A' x).fp k->AR E k->A.fp k:=λk r a6=>by
   rcases (O k r).1 with h | h
   ·exact AU.1 h
   ·have:=hM k (H k a6);omega
  refine⟨x,hs.mono (λk r=>c k (AU.1 r)),BX (λk r=>?_) ?_,(T x).keep K (λ_ _=>rfl) ht⟩
  ·rcases I x k r with h | ⟨V,_⟩
   ·exact⟨(O k h).1.imp (λh=>c k (AU.1 h)) id,(O k h).2⟩
   ·exact⟨.inl V,ZP (hM k (H k V)) hs.size⟩
  ·refine W (F:=free M w) (λC L=>(hE C L).1) X (λk r=>?_) (λk r=>hs.same k r.1 (λh=>r.2 (H k (c k (AU.1 h))))) (λk r hn=>hs.same k (hM k (H k r)) (λh=>hn (AU.1 h))) a5 ((A' x).keep K (λ_ _=>rfl) (λ_ _=>rfl) (hm.ok (A' x) (Zi.2 rfl)));refine Cp hs.size H (λC L j hj=>?_) r;obtain rfl:=Zi.1 L;rcases I x j hj with h | ⟨V,_⟩
   ·exact (O j h).1.imp (λh=>c j (AU.1 h)) id
   ·exact .inl V
end
section
variable {D:DRep α} {g:Value} {i:Int} {x y:α} {A':Atom}
def RQ:Part (own (drep D) e (zg xs g) (dh g)) (Ad D e xs g o):=⟨λ_ _ h=>h.1,λ_ h=>.inl h⟩
def Q9 (h:idx xs i=some x) (p:Part A (D.lo x (ds g i.toNat))) (c:o≠some i.toNat:=by exact non):Part A (Ad D e xs g o):=by have⟨_,_,hx⟩:=F3 h;exact⟨λF w r=>p.ok _ _ (r.2.1 _ _ c hx).1,λk C=>.inr ⟨_,_,c,hx,p.sub k C⟩⟩
def Ra {R:Rep β} {R':Rep γ} {bs:List β} (r:R.n=R'.n) (hl:bs.length=cs.length) (hc:bs.flatMap R.cs=cs.flatMap R'.cs) (h:(own R e bs v).ok F w):(own R' e cs v).ok F w:=by have⟨us,C,c⟩:=h;exact⟨us,by rw[<-r,<-hl];exact C,by rw[<-hc];exact c⟩
def Rb {f:β->List Ty} {r:γ->List Ty} {bs:List β} (hl:bs.length=cs.length) (h:∀(j:Nat) b c,bs[j]?=some b->cs[j]?=some c->f b=r c):bs.flatMap f=cs.flatMap r:=by
 induction bs generalizing cs with
 | nil=>cases cs with | nil=>rfl | cons=>cases hl
 | cons b bs C=>
  cases cs with
  | nil=>cases hl
  | cons c cs=>rw[flatMap_cons,flatMap_cons,h 0 b c rfl rfl,C (sa hl) (λj b c hb hc=>h (j+1) b c (sa hb) (sa hc))]
def Bz (h:idx xs i=some x) (hs:setAt xs i y=some ys) (hf:Gt A A' (D.lo x (ds g i.toNat)) (D.lo y (ds g i.toNat))) (hc:D.cs y (ds g i.toNat)=D.cs x (ds g i.toNat):=by rfl) (K:o≠some i.toNat:=by exact non):
  Gt A A' (Ad D e xs g o) (Ad D e ys g o):=by
 have⟨_,Z,hx⟩:=F3 h;obtain⟨_,_,rfl⟩:=Nm hs;have hy:(xs.set i.toNat y)[i.toNat]?=some y:=getElem?_set_self Z;have H:∀j,j≠i.toNat->(xs.set i.toNat y)[j]?=xs[j]?:=λj I=>getElem?_set_ne (λe=>I e.symm);refine⟨λF w hB=>hf.ok _ _ (hB.2.1 _ _ K hx).1,λk C=>.inr ⟨_,_,K,hx,hf.sub k C⟩,hf.fpA,λk=>?_,?_⟩
 ·constructor
  ·rintro (C | ⟨j,z,I,hz,C⟩)
   ·exact .inl C
   ·by_cases r:j=i.toNat
    ·subst r;rw[hy] at hz;cases hz;exact .inr ⟨_,_,K,hx,(hf.fpB k).1 C⟩
    ·rw[H j r] at hz;exact .inr ⟨j,z,I,hz,C⟩
  ·rintro (C | ⟨j,z,I,hz,C⟩)
   ·exact .inl C
   ·by_cases r:j=i.toNat
    ·subst r;rw[hx] at hz;cases hz;exact .inr ⟨_,_,K,hy,(hf.fpB k).2 C⟩
    ·exact .inr ⟨j,z,I,by rw[H j r];exact hz,C⟩
 ·rintro F F' w w' ⟨h1,W,X⟩ hF hh hn a0;refine⟨?_,λj z I hz=>?_,λj l z u V I hl hz hu k C=>?_⟩
  ·refine Atom.keep _ hF hh (λk C=>hn k (.inl C) (λhA=>(W _ _ K hx).2 k (hf.sub k hA) C)) (Ra rfl (by rw[Bq,Bq,ZK]) (Rb (by rw[Bq,Bq,ZK]) (λj b c hb L=>?_)) h1);rw[D6] at hb L;by_cases r:j=i.toNat
   ·subst r;rw[hx] at hb;rw[hy] at L;cases hb;cases L;exact hc.symm
   ·rw[H j r,hb] at L;cases L;rfl
  ·by_cases r:j=i.toNat
   ·subst r;rw[hy] at hz;cases hz;refine⟨hf.back (W _ _ K hx).1 hF hh (λk C hA=>hn k (.inr ⟨_,_,K,hx,C⟩) hA) a0,λk C=>(W _ _ K hx).2 k ((hf.fpB k).1 C)⟩
   ·rw[H j r] at hz;exact⟨Atom.keep _ hF hh (λk C=>hn k (.inr ⟨j,z,I,hz,C⟩) (λhA=>X j _ z x r I K hz hx k C (hf.sub k hA))) (W j z I hz).1,(W j z I hz).2⟩
  ·by_cases r:j=i.toNat
   ·subst r;rw[hy] at hz;cases hz;have O:l≠i.toNat:=λe=>V e.symm;rw[H l O] at hu;exact X _ l x u V K hl hx hu k ((hf.fpB k).1 C)
   ·rw[H j r] at hz;by_cases O:l=i.toNat
    ·subst O;rw[hy] at hu;cases hu;exact λa1=>X j _ z x r I K hz hx k C ((hf.fpB k).1 a1)
    ·rw[H l O] at hu;exact X j l z u V I hl hz hu k C
def nO (hl:ys.length=xs.length) (I:dh g'=dh g) (c:∀(j:Nat) x y,o≠some j->xs[j]?=some x->ys[j]?=some y->D.lo y (ds g' j)=D.lo x (ds g j)):
  Gt (own (drep D) e (zg xs g) (dh g)) (own (drep D) e (zg ys g') (dh g)) (Ad D e xs g o) (Ad D e ys g' o):=by
 have H:∀(j:Nat) y,ys[j]?=some y->∃x,xs[j]?=some x:=λj y hy=>⟨_,Zd (by have:=(Zf.1 hy).1;omega)⟩;have K:∀(j:Nat) x,xs[j]?=some x->∃y,ys[j]?=some y:=λj x hx=>⟨_,Zd (by have:=(Zf.1 hx).1;omega)⟩;refine⟨λF w h=>h.1,λk r=>.inl r,λk=>Iff.rfl,λk=>?_,?_⟩
 ·constructor
  ·rintro (r | ⟨j,y,C,hy,r⟩)
   ·exact .inl (I▸r)
   ·have⟨x,hx⟩:=H j y hy;exact .inr ⟨j,x,C,hx,c j x y C hx hy▸r⟩
  ·rintro (r | ⟨j,x,C,hx,r⟩)
   ·exact .inl (I.symm▸r)
   ·have⟨y,hy⟩:=K j x hx;exact .inr ⟨j,y,C,hy,(c j x y C hx hy).symm▸r⟩
 ·rintro F F' w w' ⟨h1,L,W⟩ X Z hn O;refine⟨I.symm▸O,λj y C hy=>?_,λj l y z V C hl hy hz k r=>?_⟩
  ·have⟨x,hx⟩:=H j y hy;rw[c j x y C hx hy,I];exact⟨Atom.keep _ X Z (λk r=>hn k (.inr ⟨j,x,C,hx,r⟩) (λhA=>(L j x C hx).2 k r hA)) (L j x C hx).1,(L j x C hx).2⟩
  ·have⟨x,hx⟩:=H j y hy;have⟨u,hu⟩:=H l z hz;rw[c j x y C hx hy] at r;rw[c l u z hl hu hz];exact W j l x u V C hl hx hu k r
end
def WA {e:TypeId} (r:∀k,F k->F' k) (h:(own R e xs v).ok F w) (c:∀k,(own R e xs v).fp k->F' k):(tsl R xs).ok F' w v:=CF.own (x:=.tmp 0) (Γ:=[(0,tv v)]) (U:=[own R e xs v]) (R:=R) (e:=e) (xs:=xs) (v:=v) (Fct.t 0 rfl) sm F F' w ⟨#[v],[]⟩ r (λA hA=>by simp at hA;subst hA;exact⟨h,c⟩) (λp hp _=>by simp at hp;subst hp;rfl)
def Rc {e:TypeId} {g:Value} (O:∀k,F k->F' k) (h:(deep D e xs g).ok F w) (H:∀(i:Nat) x,xs[i]?=some x->∀k,(D.lo x (ds g i)).fp k->F' k):(own D.S e xs (dh g)).ok F' w:=by
 have⟨⟨us,K,hc⟩,V,h3⟩:=h;rw[Bq] at K;have hl:(xs.flatMap D.S.cs).length=((zg xs g).flatMap (drep D).cs).length:=by rw[Aw D.S,Aw (drep D),Bq]
 refine⟨us,K,by rw[hc.1,hl],λj T u C hu=>?_⟩;have c:=(Zf.1 C).1;rw[Aw] at c;have W:0<D.S.n:=by
  rcases Nat.eq_zero_or_pos D.S.n with h | h
  ·rw[h] at c;omega
  ·exact h
 have X:j / D.S.n<xs.length:=Nat.div_lt_of_lt_mul (by rw[Nat.mul_comm];exact c);have I:j % D.S.n<D.S.n:=Nat.mod_lt _ W;have L:j=j / D.S.n * D.S.n+j % D.S.n:=by rw[Nat.mul_comm];exact (Nat.div_add_mod ..).symm
 have hx:xs[j / D.S.n]?=some xs[j / D.S.n]:=Zd X;have hz:(zg xs g)[j / D.S.n]?=some (xs[j / D.S.n],ds g (j / D.S.n)):=by rw[D6,hx];rfl
 rw[L] at C;have e1:=Fq D.S xs (j / D.S.n) (j % D.S.n) _ hx I;rw[e1] at C;have e2:=Fq (drep D) (zg xs g) (j / D.S.n) (j % D.S.n) _ hz I;have r:j % D.S.n<(D.cs xs[j / D.S.n] (ds g (j / D.S.n))).length:=by rw[D.len];exact I
 have e3:((zg xs g).flatMap (drep D).cs)[j]?=some ((D.cs xs[j / D.S.n] (ds g (j / D.S.n)))[j % D.S.n]):=by
  conv=>lhs;rw[L]
  exact e2.trans (Zd r)
 have:=hc.2 j _ u e3 hu;have⟨Z,h5⟩:=V (j / D.S.n) _ non hx;exact D.cl O Z (H _ _ hx) _ _ _ (Zd r) C u this
def RR {e:TypeId} {g:Value} (C:∀k,F k->F' k) (h:(deep D e xs g).ok F w) (c:∀k,(deep D e xs g).fp k->F' k):(tsl D.S xs).ok F' w (dh g):=WA (λ_ h=>h) (Rc C h (λi x hx k r=>c k (.inr ⟨i,x,non,hx,r⟩))) (λk r=>c k (.inl r))
structure Flat (A B:Atom):Prop where
 fp:∀k,B.fp k->A.fp k
 ok:∀{F F':Blk} {w:World},(∀k,F k->F' k)->A.ok F w->(∀k,A.fp k->¬B.fp k->F' k)->B.ok F' w
def flat_own' {e:TypeId} {g:Value}:Flat (deep D e xs g) (own D.S e xs (dh g)):=⟨λ_ c=>.inl c,λC h r=>Rc C h (λi x hx k c=>r k (.inr ⟨i,x,non,hx,c⟩) ((h.2.1 i x non hx).2 k c))⟩
def UW {e:TypeId} {g:Value} {o:Option Nat} (h:(Ad D e xs g o).ok F w):(dh g).oneCell'=true:=EQ h.1
def CF.deep {e:TypeId} {g:Value} {Γ:List (Nat×Ty)} {x:Operand} (h:Fct Γ x (tv (dh g))) (hU:Sim.deep D e xs g∈U):CF Γ U x (tsl D.S xs):=λF F' w a c hA h0=>by have hv:a.eval x=dh g:=h F w a h0;rw[hv];exact RR c (hA _ hU).1 (hA _ hU).2
def Np {T:Ty} {l:List Ty} {T':Ty} (h:[T][i]?=some T'):T'=T/\i=0:=by
 cases i with
 | zero=>exact⟨(Zn h).symm,rfl⟩
 | succ i=>simp at h
@[reducible] def dOwn (R : Rep α) (e : TypeId): DRep (List α) :=
 ⟨rSl R,λ_ g=>[tvs (dh g)],λys g=>own R e ys (dh g),λ_ _=>rfl,λ_ g T h F w v hv=>by simp at h;subst h;exact BV F w v hv,λC h c i T T' H r u hu=>by obtain⟨rfl,rfl⟩:=Np (l:=[]) H;obtain⟨rfl,_⟩:=Np (l:=[]) r;rw[hu.1];exact WA C h c⟩
@[reducible] def dRow (D : DRep α) (e : TypeId): DRep (List α) :=
 ⟨rSl D.S,λ_ g=>[tvs (dh g)],λys g=>deep D e ys g,λ_ _=>rfl,λ_ g T h F w v hv=>by simp at h;subst h;exact BV F w v hv,λC h c i T T' H r u hu=>by obtain⟨rfl,rfl⟩:=Np (l:=[]) H;obtain⟨rfl,_⟩:=Np (l:=[]) r;rw[hu.1];exact RR C h c⟩
section
variable {D:DRep α} {g:Value}
def nP (r:dh g'=dh g) (C:∀(j:Nat) x,xs[j]?=some x->ds g' j=ds g j) (k:Nat):(Ad D e xs g' o).fp k↔(Ad D e xs g o).fp k:=by
 constructor
 ·rintro (c | ⟨j,x,h,hx,c⟩)
  ·exact .inl (r▸c)
  ·exact .inr ⟨j,x,h,hx,C j x hx▸c⟩
 ·rintro (c | ⟨j,x,h,hx,c⟩)
  ·exact .inl (r.symm▸c)
  ·exact .inr ⟨j,x,h,hx,(C j x hx).symm▸c⟩
def nR (c:∀(j:Nat) x,xs[j]?=some x->ds g' j=ds g j):zg xs g'=zg xs g:=by
 apply ext_getElem?;intro j;rw[D6,D6]
 cases hx:xs[j]? with
 | none=>rfl
 | some x=>rw[Yb,Yb,c j x hx]
def nS (C:dh g'=dh g) (c:∀(j:Nat) x,xs[j]?=some x->ds g' j=ds g j):(Ad D e xs g' o).ok F w↔(Ad D e xs g o).ok F w:=by
 have e1:=nR c;constructor
 ·rintro ⟨H,I,K⟩;refine⟨by rw[<-e1,<-C];exact H,λj x h hx=>by rw[<-c j x hx,<-C];exact I j x h hx,λi j x y r hi h hx hy=>by rw[<-c i x hx,<-c j y hy];exact K i j x y r hi h hx hy⟩
 ·rintro ⟨H,I,K⟩;refine⟨by rw[e1,C];exact H,λj x h hx=>by rw[c j x hx,C];exact I j x h hx,λi j x y r hi h hx hy=>by rw[c i x hx,c j y hy];exact K i j x y r hi h hx hy⟩
end
section
variable {M:Fr} {D:DRep α} {g g2:Value} {i:Int} {x y:α}
def St.openD (hi:idx xs i=some x) (h:St M w0 n Γ (deep D e xs g::As) a w):St M w0 n Γ (D.lo x (ds g i.toNat)::Ad D e xs g (some i.toNat)::As) a w:=by
 have⟨_,O,hx⟩:=F3 hi;have C:St M w0 n Γ (BD [D.lo x (ds g i.toNat),Ad D e xs g (some i.toNat)]::As) a w:=by
  refine h.swapA (λk c=>?_) (λF I ⟨V,C,K⟩=>⟨λA hA=>?_,?_⟩)
  ·have⟨A,hA,c⟩:=c;rcases Zp.1 hA with rfl | hA
   ·exact .inr ⟨_,_,non,hx,c⟩
   ·obtain rfl:=Zi.1 hA;rcases c with c | ⟨j,z,L,hz,c⟩
    ·exact .inl c
    ·exact .inr ⟨j,z,non,hz,c⟩
  ·rcases Zp.1 hA with rfl | hA
   ·exact Atom.keep _ I (λ_ _=>rfl) (λ_ _=>rfl) (C _ _ non hx).1
   ·obtain rfl:=Zi.1 hA;exact Atom.keep _ I (λ_ _=>rfl) (λ_ _=>rfl) ⟨V,λj z _ hz=>C j z non hz,λj l z u H _ _ hz hu=>K j l z u H non non hz hu⟩
  ·refine pairwise_cons.2 ⟨λB W k c r=>?_,pairwise_singleton _ _⟩;obtain rfl:=Zi.1 W;rcases r with r | ⟨j,z,L,hz,r⟩
   ·exact (C _ _ non hx).2 k c r
   ·exact K i.toNat j x z (λe=>L (ZU some e)) non non hx hz k c r
 exact C.unjoin
def St.shutD (hi:idx xs i=some x) (hs:setAt xs i y=some ys) (hc:D.cs y g2=D.cs x (ds g i.toNat)) (h:St M w0 n Γ (D.lo y g2::Ad D e xs g (some i.toNat)::As) a w):St M w0 n Γ (deep D e ys (dset xs.length g i.toNat g2)::As) a w:=by
 have⟨_,W,hx⟩:=F3 hi;obtain⟨_,_,rfl⟩:=Nm hs;have hy:(xs.set i.toNat y)[i.toNat]?=some y:=getElem?_set_self W;have C:∀j,j≠i.toNat->(xs.set i.toNat y)[j]?=xs[j]?:=λj X=>getElem?_set_ne (λe=>X e.symm);have K:∀j (z:α),j≠i.toNat->xs[j]?=some z->ds (dset xs.length g i.toNat g2) j=ds g j:=λj z X hz=>by rw[Jw (Zf.1 hz).1,Zb X]
 have O:ds (dset xs.length g i.toNat g2) i.toNat=g2:=RY W;have hne:∀{j},j≠i.toNat->some i.toNat≠some j:=λX e=>X (Zn e).symm;have h2:St M w0 n Γ (BD [D.lo y g2,Ad D e xs g (some i.toNat)]::As) a w:=St.join (l:=[D.lo y g2,Ad D e xs g (some i.toNat)]) h;refine h2.swapA (λk I=>?_) (λF hF ⟨hA,a0⟩=>?_)
 ·rcases I with I | ⟨j,z,_,hz,I⟩
  ·exact⟨_,ZE _ (Zs ..),.inl (IC▸I)⟩
  ·by_cases r:j=i.toNat
   ·subst r;rw[hy] at hz;cases hz;rw[O] at I;exact⟨_,Zs ..,I⟩
   ·rw[C j r] at hz;rw[K j z r hz] at I;exact⟨_,ZE _ (Zs ..),.inr ⟨j,z,hne r,hz,I⟩⟩
 ·have a1:=hA _ (Zs ..);have⟨h1,h2,h3⟩:=hA _ (ZE _ (Zs ..));have hd:∀k,(D.lo y g2).fp k->¬(Ad D e xs g (some i.toNat)).fp k:=(pairwise_cons.1 a0).1 _ (Zs ..);refine Atom.keep _ hF (λ_ _=>rfl) (λ_ _=>rfl) ⟨?_,λj z _ hz=>?_,λj l z u Z _ _ hz hu k I=>?_⟩
  ·rw[IC];refine Ra rfl (by rw[Bq,Bq,ZK]) (Rb (by rw[Bq,Bq,ZK]) (λj b c hb L=>?_)) h1;rw[D6] at hb L;by_cases r:j=i.toNat
   ·subst r;rw[hx] at hb;rw[hy] at L;cases hb;cases L;show D.cs x _=D.cs y _;rw[O];exact hc.symm
   ·rw[C j r] at L
    cases hz:xs[j]? with
    | none=>rw[hz] at hb;cases hb
    | some z=>rw[hz] at hb L;cases hb;cases L;show D.cs z _=D.cs z _;rw[K j z r hz]
  ·rw[IC];by_cases r:j=i.toNat
   ·subst r;rw[hy] at hz;cases hz;rw[O];exact⟨a1,λk I V=>hd k I (.inl V)⟩
   ·rw[C j r] at hz;rw[K j z r hz];exact h2 j z (hne r) hz
  ·by_cases r:j=i.toNat
   ·subst r;rw[hy] at hz;cases hz;rw[O] at I;have H:l≠i.toNat:=λe=>Z e.symm;rw[C l H] at hu;rw[K l u H hu];exact λV=>hd k I (.inr ⟨l,u,hne H,hu,V⟩)
   ·rw[C j r] at hz;rw[K j z r hz] at I;by_cases H:l=i.toNat
    ·subst H;rw[hy] at hu;cases hu;rw[O];exact λV=>hd k V (.inr ⟨j,z,hne r,hz,I⟩)
    ·rw[C l H] at hu;rw[K l u H hu];exact h3 j l z u Z (hne r) (hne H) hz hu k I
def St.flatA (hf:Flat A B) (h:St M w0 n Γ (A::As) a w):St M w0 n Γ (B::As) a w:=by
 have W:=h.own A sm;have r:=pairwise_cons.1 h.apart;have H:∀j,fps (B::As) j->fps (A::As) j:=by
  rintro j ⟨Z,c,V⟩;rcases Zp.1 c with rfl | c
  ·exact⟨_,Zs ..,hf.fp j V⟩
  ·exact⟨Z,by simp[c],V⟩
 refine⟨h.size,h.defers,h.grow,h.m0,λZ c=>?_,λZ c k I=>?_,pairwise_cons.2 ⟨λZ c k I=>r.1 Z c k (hf.fp k I),r.2⟩,λp hp=>p.2.keep (BC H) (λ_ _=>rfl) (h.Xp p hp)⟩
 ·rcases Zp.1 c with rfl | c
  ·refine hf.ok (BC H) W (λk I X=>?_);have K:=h.fresh _ (Zs ..) k I;refine⟨K.2,?_⟩;rintro (hm | ⟨C,O,L⟩)
   ·have:=h.m0 k hm;rcases K.1 with hb | hb
    ·exact this.2 hb
    ·omega
   ·rcases Zp.1 O with rfl | O
    ·exact X L
    ·exact r.1 C O k I L
  ·exact Z.keep (BC H) (λ_ _=>rfl) (λ_ _=>rfl) (h.own Z (by simp[c]))
 ·rcases Zp.1 c with rfl | c
  ·exact h.fresh _ (Zs ..) k (hf.fp k I)
  ·exact h.fresh Z (by simp[c]) k I
def St.flatD (h:St M w0 n Γ (deep D e xs g::As) a w):St M w0 n Γ (Sim.own D.S e xs (dh g)::As) a w:=h.flatA flat_own'
def St.shareD {s:Nat} (j:Nat) (h:St M w0 n Γ (deep D e xs g::As) a w) (hi:Γ[j]?=some (s,tv (dh g))):St M w0 n ((s,tsl D.S xs)::Γ) As a w:=h.flatD.share j hi
def St.shutS (hi:idx xs i=some x) (c:setAt xs i y=some ys) (h:St M w0 n Γ (D.lo y (ds g i.toNat)::Ad D e xs g (some i.toNat)::As) a w) (hc:D.cs y (ds g i.toNat)=D.cs x (ds g i.toNat):=by rfl):St M w0 n Γ (deep D e ys g::As) a w:=by
 have H:=h.shutD hi c hc;have⟨_,I,_⟩:=F3 hi;obtain⟨_,_,rfl⟩:=Nm c;have r:∀(j:Nat) (z:α),(xs.set i.toNat y)[j]?=some z->ds (dset xs.length g i.toNat (ds g i.toNat)) j=ds g j:=λj z hz=>by
  have C:=(Zf.1 hz).1;rw[ZK] at C;rw[Jw C];split
  ·rename_i e;rw[e]
  ·rfl
 exact H.swapA (λk K=>(nP IC r k).2 K) (λF L h0=>Atom.keep _ L (λ_ _=>rfl) (λ_ _=>rfl) ((nS IC r).1 h0))
def St.shutN (hi:idx xs i=some x) (r:setAt xs i y=some ys) (h:St M w0 n Γ (D.lo y g2::Ad D e xs (dset xs.length g i.toNat g2) (some i.toNat)::As) a w) (hc:D.cs y g2=D.cs x g2:=by rfl):St M w0 n Γ (deep D e ys (dset xs.length g i.toNat g2)::As) a w:=by
 have⟨_,c,_⟩:=F3 hi;have e1:ds (dset xs.length g i.toNat g2) i.toNat=g2:=RY c;have C:St M w0 n Γ (D.lo y (ds (dset xs.length g i.toNat g2) i.toNat)::Ad D e xs (dset xs.length g i.toNat g2) (some i.toNat)::As) a w:=by rw[e1];exact h
 exact C.shutS hi r (by rw[e1];exact hc)
structure Bare (D:DRep α) (x:α) (g:Value):Prop where
 ok:∀F w,(D.lo x g).ok F w
 fp:∀k,¬(D.lo x g).fp k
def St.bareD {R:Rep β} {us:List β} {l:List Value} (I:R.n=D.S.n) (hl:us.length=xs.length) (hc:∀(j:Nat) b x,us[j]?=some b->xs[j]?=some x->R.cs b=D.cs x (l.getD j nilV)) (hb:∀(j:Nat) x,xs[j]?=some x->Bare D x (l.getD j nilV)) (h:St M w0 n Γ (Sim.own R e us v::As) a w):St M w0 n Γ (deep D e xs (dmk v l)::As) a w:=by
 refine h.swapA (λk C=>?_) (λF K h0=>⟨?_,λj x _ hx=>?_,λj k x y _ _ _ hx _ m hm=>?_⟩)
 ·rcases C with C | ⟨j,x,_,hx,C⟩
  ·rw[Jv] at C;exact C
  ·rw[Gw] at C;exact ((hb j x hx).fp k C).elim
 ·rw[Jv];refine Ra (R:=R) (R':=drep D) (bs:=us) (cs:=zg xs (dmk v l)) I (by rw[Bq,hl]) (Rb (by rw[Bq,hl]) (λj b c H r=>?_)) (Atom.keep _ K (λ_ _=>rfl) (λ_ _=>rfl) h0);rw[D6] at r
  cases hx:xs[j]? with
  | none=>rw[hx] at r;cases r
  | some x=>rw[hx] at r;cases r;show R.cs b=D.cs x _;rw[Gw];exact hc j b x H hx
 ·rw[Gw];exact⟨(hb j x hx).ok _ _,λk C=>((hb j x hx).fp k C).elim⟩
 ·rw[Gw] at hm;exact ((hb j x hx).fp m hm).elim
def hP {R:Rep β} {e:TypeId}:Bare (dOwn R e) ([]:List β) nilV:=⟨λ_ _=>Jn,λ_ c=>by cases c⟩
def nT {w:World}:(deep D e ([]:List α) nilV).ok F w:=⟨Jn,λj x _ hx=>by simp at hx,λi j x y _ _ _ hx=>by simp at hx⟩
def nU {k:Nat}:¬(deep D e ([]:List α) nilV).fp k:=by
 rintro (c | ⟨j,x,_,hx,_⟩)
 ·cases c
 ·simp at hx
def UT:Bare (dRow D e) ([]:List α) nilV:=⟨λ_ _=>nT,λ_=>nU⟩
def St.makeD {L:DRep (List β)} {m:Int} {xss:List (List β)} (h:St M w0 n Γ (Sim.own rVal e (replicate m.toNat nilV) v::As) a w) (hb:Bare L ([]:List β) nilV) (c:L.S.n=1) (hc:L.cs ([]:List β) nilV=[tvs nilV]) (hm:Sim.mk m ([]:List β)=some xss):St M w0 n Γ (deep L e xss (dmk v [])::As) a w:=by
 have hx:xss=replicate m.toNat []:=by
  unfold Sim.mk at hm;split at hm
  ·exact (Zn hm).symm
  ·cases hm
 subst hx;exact h.bareD c.symm sm (λj b x hb hx=>by obtain rfl:=(eq_of_mem_replicate (Zo hb));obtain rfl:=(eq_of_mem_replicate (Zo hx));exact hc.symm) (λj x hx=>by obtain rfl:=(eq_of_mem_replicate (Zo hx));exact hb)
end
section
variable {gd:Option (Nat×Bool)} {p:Operand} {D:DRep α} {f:β} {g:Value} {i:Int} {u0:α} {off:Nat}
def TOk.deep {b:Nat} (h:TOk P t D.S b z):TOk P t (drep D) b z:=⟨h.d,h.i,h.zc⟩
def Fct.hdrD {y:α} {x:Operand} (I:D.S.n=1) (hc:D.cs y gy=[tvs hv]) (h:Fct Γ x (tsl rVal [hv])):Fct Γ x (tsl (drep D) [(y,gy)]):=h.Xo λF w v ⟨C,cap,r,hl,H⟩=>⟨C,cap,r,hl,λ_=>by
 have⟨b,off,ha,hb,c⟩:=H sm;refine⟨b,off,ha,hb,?_⟩;have e1:[(y,gy)].flatMap (drep D).cs=[hv].flatMap rVal.cs:=by show D.cs y gy++[]=[tvs hv]++[];rw[hc]
 rw[e1];exact c⟩
def Ee (ht:P.underlying t=some (.slice e')) (hp:Fct Γ p (tv (dh g))):OpJ P ⟨d,.call { callee:=.builtin .len,args:=#[p],argTypes:=#[t] },ty,pos,af,gd⟩ Γ [Ad D e xs g o] [] (λ_=>[]) (λ_=>tv (.int .i64 xs.length)):=.part RQ (Bq (xs:=xs) (g:=g)▸Jb (R:=drep D) ht hp)
def Ay {k:IntKind} (ht:P.underlying t=some (.slice e')) (hz:TOk P e' D.S bytes z) (hp:Fct Γ p (tv (dh g))) (hi:Fct Γ q (tv (.int k i))) (h:idx xs i=some u):
  OpJ P ⟨d,.indexAddr t p q,ty,pos,af,gd⟩ Γ [Ad D e xs g o] [] (λ_=>[]) (λ_=>tv (AX (dh g) (i.toNat * D.S.n))):=
 .part RQ (CC (R:=drep D) ht hz.deep hp hi (RZ h))
def A9 (hz:TOk P t rVal bytes z) (hp:Fct Γ p (tv (AX (dh g) (i.toNat * D.S.n)))) (h:idx xs i=some u) (hc:D.cs u (ds g i.toNat)=[tvs (dh (ds g i.toNat))]:=by rfl):
  OpJ P ⟨d,.load t p,ty,pos,af,gd⟩ Γ [Ad D e xs g o] [] (λ_=>[]) (λ_=>tv (dh (ds g i.toNat))):=
 .part RQ (Jm (Vu (R:=drep D) (R2:=rVal) (f:=dh (ds g i.toNat)) (off:=0) hz (hp.Xo λ_ _ _ h=>by rw[h];exact (V9 _ _).symm) (RZ h) (by show [tvs _]=((D.cs u (ds g i.toNat)).drop 0).take 1;rw[hc];rfl)) (λ_ _ _ _ h=>h.1))
def nW {g2:Value} (I:∀F w,B.ok F w->hv.oneCell'=true) (hz:TOk P t rVal bytes z) (hp:Fct Γ p (tv (padd (AX (dh g) (i.toNat * D.S.n)) off))) (hx:Fct Γ q (tv hv)) (h0:idx xs i=some u0) (hoff:off+1<=D.S.n) (hu:D.cs u0 g2=splice (D.cs u0 (ds g i.toNat)) off [tvs hv]):
  OpJ P ⟨d,.store t p q,ty,pos,af,gd⟩ Γ [B] [Ad D e xs g (some i.toNat)] (λ_=>[Ad D e xs (dset xs.length g i.toNat g2) (some i.toNat)]) (λ_=>tany):=
 .say (A:=B) sm I λK=>by
  have⟨C,r,H⟩:=F3 h0;have L:setAt xs i u0=some xs:=by
   unfold setAt;rw[Zc ⟨C,om⟩];congr 1;apply ext_getElem?;intro j;by_cases c:i.toNat=j
   ·subst c;rw[getElem?_set_self r,H]
   ·rw[getElem?_set_ne c]
  refine (OpJ.focus (nO rfl IC (λj x y c hx hy=>?_)) (Vk (R:=drep D) (R2:=rVal) (u:=(u0,ds (dset xs.length g i.toNat g2) i.toNat)) (u2:=hv) hz hp (hx.Xo λ_ _ _ h=>⟨h,K⟩) (RZ h0) (zg_set L (λj c hne=>by rw[Jw c,Zb hne])) hoff ?_)).Xq (λA hA=>by cases hA)
  ·rw[hx] at hy;cases hy;rw[Jw (Zf.1 hx).1,Zb (λe=>c (ZU some e.symm))]
  ·show D.cs u0 _=_;rw[RY r];exact hu
def Ps {g2:Value} (c:∀F w,B.ok F w->hv.oneCell'=true) (hz:TOk P t rVal bytes z) (hp:Fct Γ p (tv (AX (dh g) (i.toNat * D.S.n)))) (hx:Fct Γ q (tv hv)) (h0:idx xs i=some u0) (hoff:0+1<=D.S.n) (hu:D.cs u0 g2=splice (D.cs u0 (ds g i.toNat)) 0 [tvs hv]):
  OpJ P ⟨d,.store t p q,ty,pos,af,gd⟩ Γ [B] [Ad D e xs g (some i.toNat)] (λ_=>[Ad D e xs (dset xs.length g i.toNat g2) (some i.toNat)]) (λ_=>tany):=
 nW c hz (hp.Xo λ_ _ _ h=>by rw[h];exact (V9 _ _).symm) hx h0 hoff hu
def UV {y:α} (ht:P.underlying t=some (.slice e)) (hz:TOk P e D.S bytes z) (hb:bytes<=2048) (hx:Fct Γ p (tv (dh g))) (hy:Fct Γ q (tsl (drep D) [(y,gy)])) (h:rm (xs.length+1)=some ()):
  OpJ P ⟨d,.call { callee:=.builtin .append,args:=#[p,q],argTypes:=#[t,t] },ty,pos,af,gd⟩ Γ [] [deep D e xs g,D.lo y gy] (λv'=>[deep D e (xs++[y]) (BW xs.length g v' gy)]) (λv'=>tv v'):=by
 refine OpJ.over (A:=own (drep D) e (zg xs g) (dh g)) (A':=λv'=>own (drep D) e (zg xs g++[(y,gy)]) v') (λF w h _=>(h _ (Zs ..)).1) (λk c=>⟨_,Zs ..,.inl c⟩) (λ{F w} h H v' k c=>?_) ?_ (Ef (R:=drep D) ht hz.deep hb hx hy (by rw[Bq];exact h))
 ·rcases c with c | ⟨j,x,_,hx,c⟩
  ·rw[show dh (BW xs.length g v' gy)=v' from Jv] at c;exact .inl c
  ·refine .inr ?_;rcases Nn hx with⟨hx,I⟩ | ⟨rfl,rfl⟩
   ·rw[Gy I] at c;exact⟨⟨_,Zs ..,.inr ⟨j,x,non,hx,c⟩⟩,((h _ (Zs ..)).2.1 j x non hx).2 k c⟩
   ·rw[Jx] at c;exact⟨⟨_,ZE _ (Zs ..),c⟩,λh1=>(pairwise_cons.1 H).1 _ (Zs ..) k (.inl h1) c⟩
 ·intro v' F F' w w' h H hF hh hn K X;have⟨h1,h2,h3⟩:=h _ (Zs ..);have Z:=h _ (ZE _ (Zs ..));have W:∀k,(deep D e xs g).fp k->¬(D.lo y gy).fp k:=(pairwise_cons.1 H).1 _ (Zs ..);have e1:dh (BW xs.length g v' gy)=v':=Jv;have C:∀{j x k},xs[j]?=some x->(D.lo x (ds g j)).fp k->(deep D e xs g).fp k:=λhx c=>.inr ⟨_,_,non,hx,c⟩;refine⟨by rw[e1,nN];exact X,λj x _ hx=>?_,λj l x u L _ _ hx hu k c=>?_⟩
  ·rw[e1];rcases Nn hx with⟨hx,I⟩ | ⟨rfl,rfl⟩
   ·rw[Gy I];have⟨h4,h5⟩:=h2 j x non hx;exact⟨Atom.keep _ hF hh (λk c=>hn k ⟨_,Zs ..,C hx c⟩ (h5 k c)) h4,λk c r=>h5 k c (K k r ⟨_,Zs ..,C hx c⟩)⟩
   ·rw[Jx];exact⟨Atom.keep _ hF hh (λk c=>hn k ⟨_,ZE _ (Zs ..),c⟩ (λr=>W k (.inl r) c)) Z,λk c r=>W k (.inl (K k r ⟨_,ZE _ (Zs ..),c⟩)) c⟩
  ·rcases Nn hx with⟨O,I⟩ | ⟨e1,e2⟩<;>rcases Nn hu with⟨V,hl⟩ | ⟨e3,e4⟩
   ·rw[Gy I] at c;rw[Gy hl];exact h3 j l x u L non non O V k c
   ·subst e3;subst e4;rw[Gy I] at c;rw[Jx];exact W k (C O c)
   ·subst e1;subst e2;rw[Jx] at c;rw[Gy hl];exact λr=>W k (C V r) c
   ·exact (L (e1.trans e3.symm)).elim
def FnOk.flatD {f:FuncId} (h:FnOk P f Ts [] (λv=>[deep D e xs v]) (λv=>T (dh v))):FnOk P f Ts [] (λv=>[own D.S e xs v]) T:=by
 intro M w vs O W I hc;apply Calls.mono (h M w vs O W I hc);rintro en w' ⟨x,v,X,Z,V,K⟩;have r:=V.place _ (Zi.2 rfl);have H:=V.ok _ (Zi.2 rfl);have c:∀k,free (next M [] [deep D e xs x]) w' k->free (next M [] [own D.S e xs (dh x)]) w' k:=by
  rintro k ⟨h1,h2⟩;refine⟨h1,λhm=>h2 ?_⟩;rcases hm with hm | ⟨A,hA,C⟩
  ·exact .inl hm
  ·obtain rfl:=Zi.1 hA;exact .inr ⟨_,Zi.2 rfl,.inl C⟩
 refine⟨dh x,v,X,Z,⟨pairwise_singleton _ _,λA hA k C=>?_,λA hA=>?_⟩,(T (dh x)).keep c (λ_ _=>rfl) K⟩
 ·obtain rfl:=Zi.1 hA;exact r k (.inl C)
 ·obtain rfl:=Zi.1 hA;refine Rc c H (λi z hz k C=>⟨(r k (.inr ⟨i,z,non,hz,C⟩)).2,?_⟩);rintro (⟨hm,_⟩ | ⟨A,hA,L⟩)
  ·have:=O k hm;rcases (r k (.inr ⟨i,z,non,hz,C⟩)).1 with h | h
   ·rw[Gp] at h;exact h
   ·omega
  ·obtain rfl:=Zi.1 hA;exact (H.2.1 i z non hz).2 k C L
def FnOk.roD {f:FuncId} {T':Ty} (h:FnOk P f Ts [] (λv=>[deep D e xs v]) (λv=>tv (dh v))) (c:∀x F w v,(tsl D.S xs).ok F w x->(tv x).ok F w v->T'.ok F w v):FnOk P f Ts [] (λ_=>[]) (λ_=>T'):=(FnOk.flatD (T:=λx=>tv x) h).ro c
end
def isFz (g:Value):Bool:=match g with | .nilFunc=>true | _=>false
section
variable {ps rs:Array TypeId} {va:Bool}
end

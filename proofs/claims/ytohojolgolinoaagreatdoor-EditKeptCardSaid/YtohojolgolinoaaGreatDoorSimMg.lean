/- The logic's part of maps with keys of any kind. No condition. -/
import Derived.Test.YtohojolgolinoaaGreatDoorSimX
import Derived.DeepKeys3
set_option linter.all false
open List
set_option linter.unusedSectionVars false
namespace Go.Sim
variable {α:Type} {Ts:List Ty} {T:Ty} {N:Value->List Atom} {i:Nat} {E:List Atom} {new:Nat->Value} {w:World} {Γ:List (Nat×Ty)} {V:List Ver} {F:Blk} {P:Program} {ps:List (Nat×Operand)} {τ:Type} {R:Rep α} {v:Value} {r:α} {M0:Blk} {j:Nat} {mks:List Nat} {κ:Type} {ns:List Nat} {kt:TypeId} {xs:List α} {zt:Value} {dg:Nat} {want:Bool} {Γ':List (Nat×Ty)} {B:Atom} {ops:List Oper} {C:τ->Prop} {ν σ ρ:Type} {body:σ->Option (σ⊕ρ)} {out:ρ} {s0:σ} {af:Array Edge} {U:List Atom} {w0:World} {As:List Atom} {y:Option α} {Γ'':List (Nat×Ty)} {As'':List Atom} {ty:TypeId} {pos:String} {g:Option (Nat×Bool)} {e:TypeId} {x:Operand} {t:TypeId} {z:Value} {bytes:Nat} {M:Fr} {A:Atom} {is:List Info} {os:List Oper} {Tc:List Ty} {D:DRep α} {G:Type} {ins:Op} {u:Nat}
section
open Go.MapKept
class MKey (κ:Type) where
 kv:κ->Value
 good:κ->Prop
 inj:∀a b,kv a=kv b->a=b
structure KLaw (P:Program) (kt:TypeId) (κ:Type) [MKey κ]:Prop where
 check:∀(w:World) (em:Bool) (i:κ),MKey.good i->(Instr.checkKey em 10000 kt (MKey.kv i)).run P w=.ok () w
 find:∀(w:World) (i:κ),MKey.good i->∀es:List MapEntry,(∀e∈es,∃j:κ,MKey.good j/\e.key=MKey.kv j)->((Instr.findKey kt (MKey.kv i) es).run P w=.ok none w/\∀e∈es,e.key≠MKey.kv i)\/∃j e,(Instr.findKey kt (MKey.kv i) es).run P w=.ok (some (j,e.val)) w/\es[j]?=some e/\e.key=MKey.kv i
 stays:∀(w:World) (i:κ),MKey.good i->(Instr.keyThatStays (MKey.kv i) (MKey.kv i)).run P w=.ok (MKey.kv i) w
section
variable {κ α:Type} [DecidableEq κ] [MKey κ]
def A2:List (κ×α)->κ->Option α
 | [],_=>none
 | p::l,i=>if i=p.1 then some p.2 else A2 l i
def Ds:List (κ×α)->κ->α->List (κ×α)
 | [],i,y=>[(i,y)]
 | p::l,i,y=>if i=p.1 then (i,y)::l else p::Ds l i y
def Dt:∀(l:List (κ×α)) (i:κ) (y:α) (j:κ),A2 (Ds l i y) j=if j=i then some y else A2 l j
 | [],i,y,j=>by simp[Ds,A2]
 | p::l,i,y,j=>by
  unfold Ds;by_cases h:i=p.1
  ·rw[Zc h];unfold A2;by_cases b:j=i
   ·rw[Zc b,Zc b]
   ·rw[Zb b,Zb b,Zb (by rw[<-h];exact b)]
  ·rw[Zb h];unfold A2;by_cases hp:j=p.1
   ·rw[Zc hp,Zc hp,Zb (by rw[hp];exact λe=>h e.symm)]
   ·rw[Zb hp,Zb hp];exact Dt l i y j
abbrev MpK (κ α:Type):=Option (List (κ×α))
def Ax (m:MpK κ α) (i:κ):Option α:=m.bind λl=>A2 l i
def E3 (m:MpK κ α) (i:κ) (y:α):Option (MpK κ α):=m.map λl=>some (Ds l i y)
structure Gv (R:Rep α) (F:Blk) (w:World) (es:Array MapEntry) (l:List (κ×α)):Prop where
 all:∀e∈es.toList,∃i x,e.key=MKey.kv i/\A2 l i=some x/\(R.ty x).ok F w e.val
 gd:∀e∈es.toList,∃j:κ,MKey.good j/\e.key=MKey.kv j
 has:∀i x,A2 l i=some x->∃e∈es.toList,e.key=MKey.kv i
 one:∀(n n':Nat) (e e':MapEntry),es.toList[n]?=some e->es.toList[n']?=some e'->e.key=e'.key->n=n'
def Gv.keep {R:Rep α} {F':Blk} {w':World} {b:Array MapEntry} {l:List (κ×α)} (s:∀k,F k->F' k) (H:∀k,F k->w'.heap[k]?=w.heap[k]?) (h:Gv R F w b l):Gv R F' w' b l:=⟨λe L=>let⟨i,x,O,W,X⟩:=h.all e L;⟨i,x,O,W,(R.ty x).keep s H X⟩,h.gd,h.has,h.one⟩
def RP (R:Rep α) (F:Blk) (w:World) (m:MpK κ α) (v:Value):Prop:=match m with | none=>v=.map none | some l=>∃b h c,v=.map (some b)/\w.heap[b]?=some (.map h c)/\Gv R F w h l
def AJ (R:Rep α) (m:MpK κ α) (v:Value):Atom:=
 ⟨λk=>v=.map (some k),λF w=>RP R F w m v,
  by
   intro F F' w w' H L hf h
   cases m with
   | none=>exact h
   | some l=>have⟨b,O,c,s,W,X⟩:=h;exact⟨b,O,c,s,by rw[hf b s];exact W,X.keep H L⟩⟩
def Bk (R:Rep α) (m:MpK κ α):Ty:=
 ⟨λF w v=>match m with | none=>v=.map none | some l=>∃b s c,v=.map (some b)/\F b/\w.heap[b]?=some (.map s c)/\Gv R F w s l,
  by
   intro F F' w w' v H L h
   cases m with
   | none=>exact h
   | some l=>have⟨b,s,c,W,O,X,Z⟩:=h;exact⟨b,s,c,W,H b O,by rw[L b O];exact X,Z.keep H L⟩⟩
def OA {R:Rep α} {m:MpK κ α}:One (Bk R m):=λF w v h=>by
 cases m with
 | none=>have:v=.map none:=h;rw[this];rfl
 | some l=>have⟨b,H,c,s,_⟩:=h;rw[s];rfl
@[reducible] def rMpK (R : Rep α) : Rep (MpK κ α) := ⟨λm => [Bk R m],1,false,λ_ => rfl,λm T b F w v hv => by simp at b; subst b; exact OA F w v hv,λ_ => rfl⟩
end
section
variable {Γ:List (Nat×Ty)} {P:Program} {d:Option Tmp} {ty:TypeId} {pos:String} {af:Array Edge} {g:Option (Nat×Bool)} {x y q:Operand} {t kt et:TypeId} {κ α:Type} [DecidableEq κ] [MKey κ] {R:Rep α} {bytes:Nat} {z:Value} {m:MpK κ α} {v:Value} {i:κ} {u:α}
def Vz (s:MKey.good i) (ht:P.underlying t=some (.map kt et)) (L:KLaw P kt κ) (hz:(zeroValue et).run P w=.ok z w) {x0:α} (O:(R.ty x0).ok F w z) (h:RP R F w m v) (ok:Bool):
  ∃r,(Instr.lookup t v (MKey.kv i) ok).run P w=.ok (if ok then .tuple #[r,.bool (Ax m i).isSome] else r) w/\(R.ty ((Ax m i).getD x0)).ok F w r:=by
 cases m with
 | none=>
  have hv:v=.map none:=h;subst hv;refine⟨z,?_,O⟩;have H:(Instr.checkKey true 10000 kt (MKey.kv i)).run P w=.ok () w:=L.check w true i s;have hf:(Instr.findKey kt (MKey.kv i) ([]:List MapEntry)).run P w=.ok none w:=by
   rcases L.find w i s [] (λe X=>by cases X) with h | ⟨j,e,_,W,_⟩
   ·exact h.1
   ·simp at W
  cases ok<;>simp[Instr.lookup,run_underlying ht,H,hf,hz,Ax,Result.andThen]
 | some l=>
  have⟨b,es,c,hv,hb,hm⟩:=h;subst hv;have H:∀e,(Instr.checkKey e 10000 kt (MKey.kv i)).run P w=.ok () w:=λe=>L.check w e i s;rcases L.find w i s es.toList hm.gd with⟨Z,W⟩ | ⟨j,e,Z,W,h3⟩
  ·have hn:A2 l i=none:=by
    cases hg:A2 l i with
    | none=>rfl
    | some u=>have⟨e,X,L⟩:=hm.has i u hg;exact absurd L (W e X)
   refine⟨z,?_,by show (R.ty ((A2 l i).getD x0)).ok F w z;rw[hn];exact O⟩;have e0:Ax (some l) i=none:=hn;cases ok<;>simp[Instr.lookup,run_underlying ht,Go.MapKept.run_getObj_map hb,H,Z,hz,e0,Result.andThen]
  ·have⟨i',u,h4,h5,h6⟩:=hm.all e (Zo W);rw[h3] at h4;obtain rfl:=MKey.inj _ _ h4;refine⟨e.val,?_,by show (R.ty ((A2 l i).getD x0)).ok F w e.val;rw[h5];exact h6⟩;have e0:Ax (some l) i=some u:=h5;cases ok<;>simp[Instr.lookup,run_underlying ht,Go.MapKept.run_getObj_map hb,H,Z,e0,Result.andThen]
def Pp {x0:α} (b:MKey.good i) (ht:P.underlying t=some (.map kt et)) (H:KLaw P kt κ) (hz:TOk P et R bytes z) (h:∀F w,(R.ty x0).ok F w z) (hx:Fct Γ x (tv v)) (hi:Fct Γ y (tv (MKey.kv i))):
  OpJ P ⟨d,.lookup t x y false,ty,pos,af,g⟩ Γ [AJ R m v] [] (λ_=>[]) (λ_=>R.ty ((Ax m i).getD x0)):=
 BY λM w a hU s=>by have L:=hx.val oq s;have O:=hi.val oq s;have⟨r,W,X⟩:=Vz (i:=i) b ht H (Jr hz) (h (free M w) w) (hU _ (Zi.2 rfl)) false;exact⟨r,by simp only[execOp,L,O,Sem.run_bind,W,Zl,Sem.run_pure];rfl,X⟩
def mD (h:(Bk R m).ok F w v):RP R F w m v:=by
 cases m with
 | none=>exact h
 | some l=>have⟨b,s,c,H,_,L,O⟩:=h;exact⟨b,s,c,H,L,O⟩
def Pm {x0:α} (b:MKey.good i) (ht:P.underlying t=some (.map kt et)) (H:KLaw P kt κ) (hz:TOk P et R bytes z) (h:∀F w,(R.ty x0).ok F w z) (hx:Fct Γ x (Bk R m)) (hi:Fct Γ y (tv (MKey.kv i))):
  OpJ P ⟨d,.lookup t x y false,ty,pos,af,g⟩ Γ [] [] (λ_=>[]) (λ_=>R.ty ((Ax m i).getD x0)):=
 AZ λF w a s=>by have L:=hx.use oq s;have O:=hi.val oq s;have⟨r,W,X⟩:=Vz (i:=i) b ht H (Jr hz) (h F w) (mD L) false;exact⟨r,by simp only[execOp,O,Sem.run_bind,W,Zl,Sem.run_pure];rfl,X⟩
def Po (κ:Type) [DecidableEq κ] [MKey κ] (R:Rep α):OpJ P ⟨d,.makeMap t none,ty,pos,af,g⟩ Γ [] [] (λv=>[AJ R (some []:MpK κ α) v]) (λv=>tv v):=by
 intro M w A O _ _ _ _ _;have b:(execOp A.eval (⟨d,.makeMap t none,ty,pos,af,g⟩:Oper)).run P w=.ok (.value (.map (some w.heap.size))) (w.alloc (.map #[] 0)):=rfl;simp only[Does,b];have hb:=(heap_alloc w (.map #[] 0)).1;refine⟨.map (some w.heap.size),(Step.alloc w _).mono (λ_ h=>h.elim),BX (λk L=>?_) ?_,rfl⟩
 ·have s:Value.map (some w.heap.size)=.map (some k):=L;simp only[Value.map.injEq,ZQ] at s;subst s;exact⟨.inr (Zq _),sm⟩
 ·exact⟨w.heap.size,#[],0,rfl,hb,⟨λe H=>(by simp at H),λe H=>(by simp at H),λi u h=>(by cases h),λn W e e' h=>(by simp at h)⟩⟩
def M3 {m':MpK κ α} (Z:MKey.good i) (ht:P.underlying t=some (.map kt et)) (hk:KLaw P kt κ) (hx:Fct Γ x (tv v)) (hi:Fct Γ y (tv (MKey.kv i))) (hq:Fct Γ q (R.ty u)) (h:E3 m i u=some m'):
  OpJ P ⟨d,.mapUpdate t x y q,ty,pos,af,g⟩ Γ [] [AJ R m v] (λ_=>[AJ R m' v]) (λ_=>tany):=by
 intro M w A hM _ hE _ _ O;have⟨ho,b6⟩:=hE _ (Zi.2 rfl);have b3:=Cr hE;have h1:=hx.val oq O;have h2:=hi.val oq O;have h3:=hq.use oq O
 cases m with
 | none=>cases h
 | some l=>
  obtain rfl:some (Ds l i u)=m':=by simpa[E3] using h
  have⟨b,X,c,hv,hb,hm⟩:=ho;have b7:b<w.heap.size:=(Array.getElem?_eq_some_iff.1 hb).1;have key:∃L c',(Instr.mapUpdate t v (MKey.kv i) (A.eval q)).run P w=.ok () { w with heap:=w.heap.setIfInBounds b (.map L c') }/\Gv R (free M w) w L (Ds l i u):=by
   subst hv;rcases hk.find w i Z X.toList hm.gd with⟨f1,f2⟩ | ⟨j,e,f1,f2,f3⟩
   ·refine⟨X.push ⟨MKey.kv i,A.eval q,c⟩,c+1,by simp[Instr.mapUpdate,run_underlying ht,Go.MapKept.run_getObj_map hb,hk.check w _ i Z,f1,Go.MapKept.run_setObj_map _ hb,Result.andThen],⟨λe O=>?_,λe O=>?_,λj y hj=>?_,λn n' e e' s b4 a0=>?_⟩⟩
    ·simp only[Array.toList_push,ZH,Zi] at O;rcases O with O | rfl
     ·have⟨k,y,g1,g2,g3⟩:=hm.all e O;refine⟨k,y,g1,?_,g3⟩;rw[Dt,Zb (λe2=>f2 e O (by rw[g1,e2]))];exact g2
     ·exact⟨i,u,rfl,by rw[Dt,Zc rfl],h3⟩
    ·simp only[Array.toList_push,ZH,Zi] at O;rcases O with O | rfl
     ·exact hm.gd e O
     ·exact⟨i,Z,rfl⟩
    ·rw[Dt] at hj;by_cases e:j=i
     ·subst e;exact⟨_,by rw[Array.toList_push];exact mem_append_right _ (mem_singleton_self _),rfl⟩
     ·rw[Zb e] at hj;have⟨e',a3,b8⟩:=hm.has j y hj;exact⟨e',by rw[Array.toList_push];exact mem_append_left _ a3,b8⟩
    ·rw[Array.toList_push] at s b4;have W:∀(n:Nat) (e:MapEntry),(X.toList++[⟨MKey.kv i,A.eval q,c⟩])[n]?=some e->X.toList[n]?=some e\/(n=X.toList.length/\e.key=MKey.kv i):=λn e h=>by
      rw[getElem?_append] at h;split at h
      ·exact .inl h
      ·rename_i c4;rw[getElem?_singleton] at h;split at h
       ·exact .inr ⟨om,by cases h;rfl⟩
       ·cases h
     rcases W n e s with a | ⟨a1,a2⟩<;>rcases W n' e' b4 with b | ⟨b1,b2⟩
     ·exact hm.one n n' e e' a b a0
     ·exact absurd (a0.trans b2) (f2 e (Zo a))
     ·exact absurd (a0.symm.trans a2) (f2 e' (Zo b))
     ·omega
   ·have hj:X[j]?=some e:=by simpa using f2
    have a4:∀n:Nat,(X.modify j λe=>{ e with key:=MKey.kv i,val:=A.eval q }).toList[n]?=if n=j then some { e with key:=MKey.kv i,val:=A.eval q } else X.toList[n]?:=λn=>by
     rw[Array.getElem?_toList,Array.getElem?_modify];by_cases s:n=j
     ·subst s;rw[Zc rfl,Zc rfl,hj];rfl
     ·rw[Zb (λh=>s h.symm),Zb s,Array.getElem?_toList]
    have kk:∀(n:Nat) (e':MapEntry),(X.modify j λe=>{ e with key:=MKey.kv i,val:=A.eval q }).toList[n]?=some e'->∃e0,X.toList[n]?=some e0/\e0.key=e'.key/\(n=j->e'.val=A.eval q)/\(n≠j->e'=e0):=λn e' h=>by
     rw[a4] at h;by_cases s:n=j
     ·rw[Zc s] at h;cases h;exact⟨e,by rw[s];exact f2,f3,λ_=>rfl,λh=>(h s).elim⟩
     ·rw[Zb s] at h;exact⟨e',h,rfl,λh=>(s h).elim,λ_=>rfl⟩
    refine⟨X.modify j λe=>{ e with key:=MKey.kv i,val:=A.eval q },c,by simp[Instr.mapUpdate,run_underlying ht,Go.MapKept.run_getObj_map hb,hk.check w _ i Z,f1,hj,f3,hk.stays w i Z,Go.MapKept.run_setObj_map _ hb,Result.andThen],⟨λe' a3=>?_,λe' a3=>?_,λk y a8=>?_,λn n' e1 e2 h1 h2 a0=>?_⟩⟩
    ·have⟨n,s⟩:=ZX.1 a3;have⟨e0,g1,g2,g3,g4⟩:=kk n e' s;have⟨k,y,q1,q2,q3⟩:=hm.all e0 (Zo g1);by_cases H:n=j
     ·have:e0=e:=by rw[H,f2] at g1;exact (Zn g1).symm
      subst this;have c5:k=i:=MKey.inj _ _ (q1.symm.trans f3);exact⟨i,u,by rw[<-g2,f3],by rw[Dt,Zc rfl],by rw[g3 H];exact h3⟩
     ·have hne:k≠i:=λe2=>H (hm.one n j e0 e g1 f2 (by rw[q1,f3,e2]));exact⟨k,y,by rw[<-g2];exact q1,by rw[Dt,Zb hne];exact q2,by rw[g4 H];exact q3⟩
    ·have⟨n,s⟩:=ZX.1 a3;have⟨e0,g1,g2,_,_⟩:=kk n e' s;have⟨q,q1,q2⟩:=hm.gd e0 (Zo g1);exact⟨q,q1,by rw[<-g2];exact q2⟩
    ·have old:∀e0∈X.toList,∃e'∈(X.modify j λe=>{ e with key:=MKey.kv i,val:=A.eval q }).toList,e'.key=e0.key:=λe0 a9=>by
      have⟨n,s⟩:=ZX.1 a9;by_cases H:n=j
      ·have:e0=e:=by rw[H,f2] at s;exact (Zn s).symm
       subst this;exact⟨_,Zo (by rw[a4,Zc H]),f3.symm⟩
      ·exact⟨e0,Zo (i:=n) (by rw[a4,Zb H];exact s),rfl⟩
     rw[Dt] at a8;by_cases e2:k=i
     ·subst e2;have⟨e',g1,g2⟩:=old e (Zo f2);exact⟨e',g1,by rw[g2];exact f3⟩
     ·rw[Zb e2] at a8;have⟨e0,a9,b9⟩:=hm.has k y a8;have⟨e',g1,g2⟩:=old e0 a9;exact⟨e',g1,by rw[g2];exact b9⟩
    ·have⟨a1,b1,c1,_⟩:=kk n e1 h1;have⟨a2,b2,c2,_⟩:=kk n' e2 h2;exact hm.one n n' a1 a2 b1 b2 (by rw[c1,c2];exact a0)
  have⟨L,c',b5,c0⟩:=key;have b0:(execOp A.eval (⟨d,.mapUpdate t x y q,ty,pos,af,g⟩:Oper)).run P w=.ok .skip { w with heap:=w.heap.setIfInBounds b (.map L c') }:=by simp only[execOp,h1,h2,Sem.run_bind,b5,Zl,Sem.run_pure]
  simp only[Does,b0];have a5:=heap_set (o':=.map L c') hb;have a6:Step (AR [AJ R (some l) v]) w { w with heap:=w.heap.setIfInBounds b (.map L c') }:=⟨rfl,rfl,rfl,sm,λk _ c3=>a5.2 k (λe=>c3 (AU.2 (by rw[e];exact hv)))⟩;refine⟨undef,a6,BX (λk hk=>?_) ?_,trivial⟩
  ·have a7:v=.map (some k):=hk;refine⟨.inl (AU.2 a7),?_⟩;rw[hv] at a7;simp only[Value.map.injEq,ZQ] at a7;subst a7;simpa using b7
  ·refine⟨b,L,c',hv,a5.1,?_⟩;refine Gv.keep (λk hk=>?_) (λk hk=>a5.2 k (λe=>?_)) c0
   ·refine Cp a6.size b3 (λB hB j hj=>?_) hk;obtain rfl:=Zi.1 hB;exact .inl (AU.2 hj)
   ·exact hk.2 (b6 b hv |> λh=>by rw[e];exact h)
def f8 {s:MpK κ α} (b:MKey.good i) (ht:P.underlying t=some (.map kt et)) (H:KLaw P kt κ) (hx:Fct Γ x (tv v)) (hi:Fct Γ y (tv (MKey.kv i))) (L:Fct Γ q (R.ty u)) (h:E3 m i u=some s):
  OpJ P ⟨d,.insert t x y q,ty,pos,af,g⟩ Γ [] [AJ R m v] (λ_=>[AJ R s v]) (λ_=>tany):=
 λM w A a1 a2 a3 a4 a5 a6=>M3 (d:=d) (ty:=ty) (pos:=pos) (af:=af) (g:=g) b ht H hx hi L h M w A a1 a2 a3 a4 a5 a6
def mE {F':Blk} (h:(AJ R m v).ok F w) (L:∀k,F k->F' k) (s:∀k,(AJ R m v).fp k->F' k):(Bk R m).ok F' w v:=by
 cases m with
 | none=>exact h
 | some l=>have⟨b,O,c,H,W,X⟩:=h;exact⟨b,O,c,H,s b H,W,X.keep L (λ_ _=>rfl)⟩
end
section
variable {M:Fr} {w0 w:World} {n:Nat} {Γ:List (Nat×Ty)} {As:List Atom} {a:Act} {κ α:Type} [DecidableEq κ] [MKey κ] {R:Rep α} {m:MpK κ α} {v:Value}
end
instance :MKey Str:=⟨λi=>.string (sB i),λ_=>True,λa b h=>by simpa[sB_inj] using h⟩
instance :MKey Int:=⟨λi=>.int .i64 i,λ_=>True,λa b h=>by simpa using h⟩
def mF [MKey κ] {D:TypeDesc} (H:P.underlying kt=some D) (b:∀i:κ,IsKey D (MKey.kv i)):KLaw P kt κ where
 check:=λw em i _=>Go.MapKept.run_checkKey H (b i) em 9999
 find:=λw i _ L h=>by
  have s:∀e∈L,IsKey D e.key:=λe O=>by have⟨j,_,W⟩:=h e O;rw[W];exact b j
  rcases findNow_spec (b i) L 0 s with⟨f1,f2⟩ | ⟨j,e,f1,f2,f3⟩
  ·exact .inl ⟨Go.MapKept.run_findKey H f1,f2⟩
  ·exact .inr ⟨j,e,by rw[Nat.zero_add] at f1;exact Go.MapKept.run_findKey H f1,f2,f3⟩
 stays:=λw i _=>run_keyThatStays (b i)
def Gi (b:P.underlying kt=some .string):KLaw P kt Str:=mF b (λi=>by simp[MKey.kv,IsKey])
def Wb [MKey κ] (K:WideMaps.KeyLaw P kt) (s:∀i:κ,MKey.good i->∃l,keyOf P kt (MKey.kv i)=some l):KLaw P kt κ where
 check:=λw em i h=>by have⟨l,hl⟩:=s i h;exact K.check w em hl
 find:=λw i h H b=>by have⟨l,hl⟩:=s i h;exact K.find w hl H (λe L=>by have⟨j,O,e1⟩:=b e L;rw[e1];exact s j O)
 stays:=λw i h=>by have⟨l,hl⟩:=s i h;exact K.stays w hl
end
section
variable {n:Nat} {a:Act}
def YOk2 (P:Program) (l:Nat) (E:List Atom) (v:Value) (T:Ty) (b:Bool) (N:Value->List Atom):Prop:=∀(M:Blk) (w:World) (u:Value),(∀k,M k->k<w.heap.size)->DL M E w->BA E->T.ok (free M w) w u->∃h tmps assign body,(Instr.yield l #[v,u]).run P w=.ok (.round l h tmps assign body) w/\RoundIn Fence.wide 0 P l h tmps assign body w (RB E M b N w)
def YOk2.join {l:Nat} {b:Bool} (h:YOk2 P l E v T b N):YOk2 P l [BD E] v T b (λx=>[BD (N x)]):=λM w u s H _ hu=>by have⟨L,O⟩:=mG H;have⟨W,tmps,X,body,Z,hR⟩:=h M w u s L O hu;exact⟨W,tmps,X,body,Z,RoundIn.mono hR (λe w' ⟨x,he,hs,hm⟩=>⟨x,he,by rw[IB];exact hs,mH hm⟩)⟩
def eZ {d:Option Tmp} {ty:TypeId} {pos:String} {g:Option (Nat×Bool)} {f x y:Operand} {b:Bool} {l:Nat} {ts:Array TypeId} (hf:Fct Γ f (tv (.func (.yield l) #[] #[]))) (hx:Fct Γ x (tv v)) (hy:Fct Γ y T) (X:YOk2 P l E v T b N):OpJ P ⟨d,.call { callee:=.value f,args:=#[x,y],argTypes:=ts },ty,pos,af,g⟩ Γ [] E N (λ_=>tv (.bool b)):=by
 intro M w a Z _ hE H _ h;have L:=hf.val sc h;have O:=hx.val sc h;have W:=hy (free M w) w a (λp hp e=>h p hp (by simp[Op.operands,Call.operands,e]));have⟨fn,tmps,as,body,s,hR⟩:=X M w _ Z hE H W;have hr:(execOp a.eval (⟨d,.call { callee:=.value f,args:=#[x,y],argTypes:=ts },ty,pos,af,g⟩:Oper)).run P w=.ok (.round l fn tmps as body) w:=by simp only[execOp,resolve,Deferred.ofValue,L,map_toArray,Ys,Yy,O,Sem.run_bind,Sem.run_pure,Zl,invoke];simpa using s
 simp only[Does,hr];apply RoundIn.mono hR;rintro e w' ⟨x,h,h1,h2⟩;exact⟨_,h,x,h1,h2,rfl⟩
def mI {l:Nat} {H:FuncId} {tmps:Array Value} {p q:Tmp} {assign body:Code} {D:Nat} {b:Bool} {Γ:List (Nat×Ty)} (W:tmps.size=n) (hp:p<n) (hq:q<n) (X:p≠q) (hne:(Γ.all λz=>z.1 !=p&&z.1 !=q)=true) (h:∀M0 M w a,A4 M0 (CI l (A0 H tmps #[p,q] assign body D) Γ::E) M->St M w n ((p,tv v)::(q,T)::Γ) (CI l (A0 H tmps #[p,q] assign body D) Γ::E) a w->assign.wpIn (Fence.wide.inRound l) 0 P (Exit.then (λL O=>∃s,(Instr.beginRound l).run P O=.ok () s/\body.wpIn (Fence.wide.inRound l) 0 P (roundPost P l (RB (CI l (A0 H tmps #[p,q] assign body D) Γ::E) M0 b N w)) L s) (λ_ _ _=>False)) a w):
  YOk2 P l (CI l (A0 H tmps #[p,q] assign body D) Γ::E) v T b N:=by
 intro M0 w u hM hE Z hu;have hl:=(hE _ (Zs ..)).1;refine⟨H,(tmps.setIfInBounds p v).setIfInBounds q u,assign,body,?_,?_⟩
 ·have:=run_yield (P:=P) (args:=#[v,u]) hl.1 rfl;simpa[A0] using this
 ·have⟨M,a0,a1⟩:=Vq (a:={ tmps:=(tmps.setIfInBounds p v).setIfInBounds q u,defers:=[] }) (n:=n) (Γ:=(p,tv v)::(q,T)::Γ) hM hE Z (sa W) rfl (λz hz=>by
   rcases Zp.1 hz with rfl | hz
   ·show ((tmps.setIfInBounds p v).setIfInBounds q u).getD p undef=v;rw[Array.getD_eq_getD_getElem?,Array.getElem?_setIfInBounds_ne (Ne.symm X)];simp[W,hp]
   ·rcases Zp.1 hz with rfl | hz
    ·have e:((tmps.setIfInBounds p v).setIfInBounds q u).getD q undef=u:=by simp[W,hq]
     show T.ok _ _ (((tmps.setIfInBounds p v).setIfInBounds q u).getD q undef);rw[e];exact hu
    ·have h1:=hl.2 z hz;have h2:=ZD.1 hne z hz;simp only[Zh,bne_iff_ne,ne_eq] at h2;have e:get { tmps:=(tmps.setIfInBounds p v).setIfInBounds q u,defers:=[] } z.1=tmps.getD z.1 undef:=by
      simp[get,Array.getElem?_setIfInBounds_ne (Ne.symm h2.1),Array.getElem?_setIfInBounds_ne (Ne.symm h2.2)]
     rw[e];exact h1)
  exact roundIn_of_wpIn trivial (h M0 M w _ a0 a1)
def V0 (P:Program) (n:Nat) (Γ:List (Nat×Ty)) {S ι:Type} (A:S->Value->List Atom) (va:ι->Value) (vb:ι->Ty) (p q:Tmp) (assign body:Code) (jx:Exit) (Y:S->ι->Option (S⊕S)):Prop:=
 ∀s g i r,Y s i=some r->∀(M0:Blk) (M:Fr) (w0:World) (a:Act) (l:Nat) (LR h:Atom) (K:Act->World->Prop) (Q:Exit->Act->World->Prop),(∀F w,h.ok F w->∃r,w.heap[l]?=some (.loop r))->
  A4 M0 (LR::A s g) M->St M w0 n ((p,tv (va i))::(q,vb i)::Γ) (LR::A s g) a w0->
  (∀Γ' As a w,St M w0 n Γ' (LR::As) a w->(∀w,St M w0 n Γ' (h::As) a w->body.wpIn (Fence.wide.inRound l) 0 P Q a w)->K a w)->
  (∀b x Γ' is As a w,r=.inl b->St M w0 n Γ' (h::As) a w->Bj is=true->(∀L,is.filterMap (λi=>(L::As)[i]?)=L::A b x)->Q .normal a w)->
  (∀b x Γ' is As a w,r=.inr b->St M w0 n Γ' (h::As) a w->Bj is=true->(∀L,is.filterMap (λi=>(L::As)[i]?)=L::A b x)->Q jx a w)->
  assign.wpIn (Fence.wide.inRound l) 0 P (Exit.then K (λ_ _ _=>False)) a w0
def Pj (P:Program) (f1:FuncId) (Tc:List Ty) {S ι:Type} (va:ι->Value) (vb:ι->Ty) (Y:S->ι->Option (S⊕S)) (s0:S) (t:S⊕S):Prop:=∀(l:Nat) (W:S⊕S->Value->Atom) (g0:Value),(∀s g i r,Y s i=some r->YOk2 P l [W (.inl s) g] (va i) (vb i) r.isLeft (λx=>[W r x]))->∃T,FnOk P f1 (tv (.func (.yield l) #[] #[])::Tc) [W (.inl s0) g0] (λx=>[W t x]) T
section
variable {S ι:Type} {A:S->Value->List Atom} {va:ι->Value} {vb:ι->Ty} {p q:Tmp} {assign body jump:Code} {jx:Exit} {Y:S->ι->Option (S⊕S)} {s0:S} {g0:Value} {t:S⊕S} {f1:FuncId} {g:Operand}
def mJ {fn:FuncId} {D l:Nat} {ex:List Atom} {O:Array Value} (a3:a.tmps=O) (hj:Js jump jx) (H:St M w0 n Γ ((CI l (A0 fn O #[p,q] assign body D) Γ::A s0 g0)++ex) a w)
  (hg:Fct Γ g (CZ f1 Tc)) (a0:Pj P f1 Tc va vb Y s0 t) (hp:p<n) (hq:q<n) (a4:p≠q) (hne:(Γ.all λz=>z.1 !=p&&z.1 !=q)=true) (W:V0 P n Γ A va vb p q assign body jx Y):
  ∃caps:List Value,a.eval g=.func (.func f1) #[] caps.toArray/\CallsIn Fence.wide 0 P f1 (#[.func (.yield l) #[] #[]]++caps.toArray) w (λe w'=>∃v x,e=.returned v/\St M w0 n Γ (recW A l (A0 fn O #[p,q] assign body D) jump Γ t x++ex) a w'):=by
 have⟨caps,a5,a1⟩:=hg _ _ a (λp hp _=>H.Xp p hp);refine⟨caps,a5,callsIn_wide.2 ?_⟩;have⟨T,L⟩:=a0 l (λr x=>BD (recW A l (A0 fn O #[p,q] assign body D) jump Γ r x)) g0 (λs g i r hY=>by
  refine (mI (Γ:=Γ) (b:=r.isLeft) (N:=λx=>recW A l (A0 fn O #[p,q] assign body D) jump Γ r x) (a3▸H.size) hp hq a4 hne (λM0 M w a X a2=>?_)).join;refine W s g i r hY M0 M w a l _ (CI l { A0 fn O #[p,q] assign body D with state:=.busy } Γ) _ _ (λF w h=>⟨_,h.1⟩) X a2 (λΓ' As a w1 h1 h2=>mK h1 rfl h2) ?_ ?_
  ·rintro s' x Γ' is As a w1 rfl h1 hd hN;exact mL x is X h1 hd (hN _)
  ·rintro s' x Γ' is As a w1 rfl h1 hd hN;exact mM hj x is X h1 hd (hN _))
 have L:=(FnOk.unjoin L) (hold M.m ((CI l (A0 fn O #[p,q] assign body D) Γ::A s0 g0)++ex)) w (.func (.yield l) #[] #[]::caps) ?_ ?_ ?_ ?_
 ·apply Calls.mono (sa L);rintro e w' ⟨x,v,rfl,hs,hm,_⟩;exact⟨v,x,rfl,H.called hs hm⟩
 ·intro k Z;rcases Z with Z | ⟨A,hA,Z⟩
  ·exact ZP (H.m0 k Z).1 H.grow.size
  ·exact (H.fresh A hA k Z).2
 ·intro A hA;exact⟨H.own A (mem_append_left _ hA),λk Z=>.inr ⟨A,mem_append_left _ hA,Z⟩⟩
 ·exact (pairwise_append.1 H.apart).1
 ·exact .cons rfl a1
def gZ {Q:Exit->Act->World->Prop} (hj:Js jump jx) (a5:St M w0 n Γ (A s0 g0) a w) (hg:Fct Γ g (CZ f1 Tc)) (hc:Qj P f1) (a3:Pj P f1 Tc va vb Y s0 t) (hp:p<n) (hq:q<n) (a6:p≠q) (hne:(Γ.all λz=>z.1 !=p&&z.1 !=q)=true)
  (Z:V0 P n Γ A va vb p q assign body jx Y)
  (hQ:∀s x D a' w' b,t=.inl s->(∀M0 E,A4 M0 E M->Jt M0 E D b)->St b w0 n Γ (objA D defO::A s x) a' w'->Q .normal a' w')
  (hX:∀s x D a' w' b,t=.inr s->(∀M0 E,A4 M0 E M->Jt M0 E D b)->St b w0 n Γ (objA D defO::A s x) a' w'->Q jx a' w'):(Code.rangeFunc g #[p,q] assign body).wp P Q a w:=by
 refine (wpIn_wide (n:=0)).1 (wpIn_rangeFunc λH _=>?_);have h1:=a5.lay defO;have h2:St M w0 n Γ (CI (w.alloc defO).heap.size (A0 H a.tmps #[p,q] assign body w.heap.size) Γ::objA w.heap.size defO::A s0 g0) a ((w.alloc defO).alloc (.loop (A0 H a.tmps #[p,q] assign body w.heap.size))):=h1.layA (.loop (A0 H a.tmps #[p,q] assign body w.heap.size)) (λ_=>Iff.rfl) (λF w' hF hh h=>⟨h,λp hp=>p.2.keep hF (λk hk=>hh k hk.1) (h1.Xp p hp)⟩);rw[World.size_alloc] at h2;have⟨b1,a7,a8,a9⟩:=hc;have h3:=h2.perm (Bs:=(CI (w.heap.size+1) (A0 H a.tmps #[p,q] assign body w.heap.size) Γ::A s0 g0)++[objA w.heap.size defO]) (by apply Perm.cons _;exact (perm_append_comm (l₁:=[objA w.heap.size defO]) (l₂:=A s0 g0)));have hW:∃W,(w.alloc defO).alloc (.loop (A0 H a.tmps #[p,q] assign body w.heap.size))=W:=⟨_,rfl⟩;have⟨W,hW⟩:=hW;have a0:=run_enterLoop_outer (P:=P) (w:=w) H a.tmps #[p,q] assign body
 change _=Result.ok _ ((w.alloc defO).alloc (.loop (A0 H a.tmps #[p,q] assign body w.heap.size))) at a0
 rw[hW] at h2 h3 a0;have⟨caps,b0,L⟩:=mJ (jump:=jump) rfl hj h3 hg a3 hp hq a6 hne Z;refine⟨w.heap.size+1,[mark w.heap.size],W,{ target:=.fn (.func f1) caps.toArray,args:=#[.func (.yield (w.heap.size+1)) #[] #[]] },W,f1,#[.func (.yield (w.heap.size+1)) #[] #[]]++caps.toArray,W,a0,?_,λ_ _=>trivial,?_,λhh=>(by cases hh),?_⟩
 ·simp[resolve,Deferred.ofValue,b0];rfl
 ·simp only[invoke,callFunc,Sem.run_bind,Sem.run_pure,run_program,Zl,a7,a8,a9,Yo,if_false]
 ·refine callsIn_wide.2 (Calls.mono (callsIn_wide.1 L) ?_);rintro e w' ⟨v,x,rfl,h4⟩;have a4:∀(As:List Atom) (a1:World),St M w0 n Γ (As++[objA w.heap.size defO]) a a1->∃b,(∀M0 E,A4 M0 E M->Jt M0 E w.heap.size b)/\St b w0 n Γ (objA w.heap.size defO::As) { a with defers:=[mark w.heap.size]++a.defers } a1:=λAs a1 h5=>by
   have X:=h5.perm (Bs:=objA w.heap.size defO::As) (perm_append_comm (l₁:=As) (l₂:=[objA w.heap.size defO]));exact⟨⟨M.m,M.b,[mark w.heap.size]++M.d⟩,λM0 E O=>⟨O.b,O.m,O.d,by simp[O.e]⟩,⟨X.size,by simp[X.defers],X.grow,X.m0,X.own,X.fresh,X.apart,X.Xp⟩⟩
  cases t with
  | inl s=>refine⟨none,_,run_endLoop (h4.own _ (Zs ..)).1 (by simp[A0]),?_⟩;have⟨b,a2,h5⟩:=a4 (A s x) _ ((h4.putL { A0 H a.tmps #[p,q] assign body w.heap.size with state:=.exhausted } rfl).sub (sublist_cons_self ..));exact hQ s x _ _ _ b rfl a2 h5
  | inr s=>
   refine⟨some jump,_,run_endLoop (h4.own _ (Zs ..)).1 sm,?_⟩;have⟨b,a2,h5⟩:=a4 (A s x) _ ((h4.putL { A0 H a.tmps #[p,q] assign body w.heap.size with state:=.exhausted,pending:=some jump } rfl).sub (sublist_cons_self ..));have:=hX s x _ _ _ b rfl a2 h5
   cases hj with
   | ret=>exact wpIn_ret this
   | exit id=>exact wpIn_exit this
end
end
def QW.drop {us:List Value} (h:QW Ts F w us) (n:Nat):QW (Ts.drop n) F w (us.drop n):=⟨by rw[Yi,Yi,h.1],λj T u b hu=>by rw[getElem?_drop] at b hu;exact h.2 _ T u b hu⟩
section
variable {d:Option Tmp} {y:Operand}
end
section
variable {d:Option Tmp} {y:Operand}
end
def cnt (n i:Nat):Option (Nat⊕Unit):=if i<n then some (.inl (i+1)) else some (.inr ())
structure Done (n i:Nat) (Q:Value->Prop) (z h:Value) (g:Value):Prop where
 hdr:dh g=h
 agg:isFz g=false
 upto:∀j,j<i->Q (ds g j)
 rest:∀j,i<=j->j<n->ds g j=z
section
variable {n:Nat} {a:Act} {g:Value}
end
section
variable {g hv:Value} {o:Option Nat} {i:Int} {u:α}
end
section
variable {d:Option Tmp} {y:Operand}
end
def neL (xs:List α):Option Unit:=if xs.isEmpty then none else some ()
def Fct.toN {x:Operand} {u:Unit} (h:Fct Γ x (tsl R xs)) (b:neL xs=some u):Fct Γ x (tsn R xs):=λF w a h0=>⟨h F w a h0,λe=>by subst e;cases b⟩
def CF.boxPD {x:Operand} {e:TypeId} {D:DRep α} {g q:Value} (k:Nat) (h:Fct Γ x (tv q)) (hU:Sim.box Ts q∈U) (X:Sim.deep D e xs g∈U) (hk:Ts[k]?=some (tvs (dh g))):CF Γ U x (tptr (Ts.set k (tsl D.S xs))):=by
 intro F F' w a Z hA h0;have hv:a.eval x=q:=h F w a h0;have⟨H,L⟩:=hA _ hU;rw[hv];have⟨b,off,e1,e2,hr⟩:=RJ H Z L;refine⟨b,off,e1,e2,λj T s=>?_⟩;rw[getElem?_set] at s;split at s
 ·rename_i ej;subst ej;split at s
  ·cases s;have⟨u,hu,O⟩:=hr k (tvs (dh g)) hk;have W:u=dh g:=O.1;subst W;exact⟨_,hu,RR Z (hA _ X).1 (hA _ X).2⟩
  ·cases s
 ·exact hr j T s
section
variable {d:Option Tmp}
def gG {n:Nat} {ps:Array (Nat×Operand)} {us us2:List α} (hu:P.underlying t=some (.array n e)) (H:TOk P e R bytes z) (hz:(P.info? t).bind (·.zero)=some zt) (L:zt.cells.size=(us.length+us2.length) * R.n) (h0:∀F w,QW (us2.flatMap R.cs) F w (zt.cells.toList.drop (us.length * R.n))) (hps:BU Γ R 0 ps.toList us):
  OpJ P ⟨d,.build t ps,ty,pos,af,g⟩ Γ [] [] (λ_=>[]) (λ_=>tagg ((us++us2).flatMap R.cs)):=
 AZ λF w A he=>by
  have⟨ti,O,_,hs,_⟩:=H.info;have⟨vs,hc,_,b,hf,W⟩:=RG (F:=F) (w:=w) (A:=A) hps (λp hp ⟨q,hq,e⟩=>he p hp (by simp only[Op.operands,mem_toArray,ZR];exact⟨q,hq,e.symm⟩)) zt.cells (by rw[L,Nat.zero_add,Nat.add_mul];omega);have X:vs.length=us.length * R.n:=by rw[hc.1,Aw]
  have s:b.toList=vs++zt.cells.toList.drop (us.length * R.n):=by rw[W];simp[splice,X]
  obtain⟨tj,Z,a0⟩:∃ti,P.info? t=some ti/\ti.zero=some zt:=by
   cases h:P.info? t with
   | none=>simp[h] at hz
   | some ti=>exact⟨ti,rfl,by simpa[h] using hz⟩
  refine⟨.agg b,?_,b.toList,sm,by rw[s,ZM];exact hc.append (h0 F w)⟩;have a1:(zeroValue t).run P w=.ok zt w:=by simp[zeroValue,typeInfo,Z,a0]
  have a2:(sizeOf e).run P w=.ok R.n w:=by simp[sizeOf,typeInfo,O,hs]
  have a3:Instr.fill (λi=>some (i * R.n,R.n)) zt.cells (ps.map λp=>(p.1,A.eval p.2)).toList=some b:=by simpa using hf
  simp only[execOp,Instr.build,Sem.run_bind,a1,Zl,run_underlying hu,a2,a3,Sem.run_pure]
end
def N9 {t:TypeId} (hu:P.underlying t=some (.int .i64)) (n:Nat) {a:Int} (h:-9223372036854775808<=a/\a<=9223372036854775807):P.keyLits (n+1) t [.int .i64 a]=some [.int .i64 a]:=by
 have b:(Lit.int .i64 a).wf=true:=by unfold Lit.wf;simp[IntKind.min,IntKind.max,IntKind.bits,IntKind.signed]<;>omega
 simp[Program.keyLits,hu,b]
def V1:∀{l:Lz} {us:List Value},QW (l.map λn=>ti n) F w us->us=l.map λn=>.int .i64 n
 | [],us,h=>h.inv0
 | a::l,us,h=>by obtain⟨u,vs,rfl,b,s⟩:=QW.inv h;rw[V1 s,show u=.int .i64 a from b];rfl
def Fct.ints {x:Operand} (l:Lz) (h:Fct Γ x (tagg (l.map λn=>ti n))):Fct Γ x (tv (.agg (l.map λn=>Value.int .i64 n).toArray)):=λF w a h0=>by have⟨us,e,hc⟩:=h F w a h0;rw[V1 hc] at e;exact e
def emp:Atom:=⟨λ_=>False,λ_ _=>True,λ_ _ _ _=>trivial⟩
def optA (b:Bool) (A:Atom):Atom:=match b with | true=>A | false=>emp
def St.emp {M:Fr} {n:Nat} {a:Act} (h:St M w0 n Γ As a w):St M w0 n Γ (Sim.emp::As) a w:=St.reA (A:=Sim.own rI 3 ([]:Lz) (.slice none 0 0)) (B:=Sim.emp) (by funext k;exact propext ⟨λh=>h.elim,λh=>(by cases h)⟩) (λ_ _ _=>trivial) (h.nil rI 3)
def Uh [DecidableEq κ] [MKey κ] {m:MpK κ α} (h:(AJ R m v).ok F w):v.oneCell'=true:=by
 cases m with
 | none=>have h:v=.map none:=h;rw[h];rfl
 | some l=>have⟨b,H,c,s,_⟩:=h;rw[s];rfl
section
variable {n:Nat} {a:Act}
def St.shareCMK [DecidableEq κ] [MKey κ] {m:MpK κ α} {q:Value} (k:Nat) (h:St M w0 n Γ (AJ R m v::box Ts q::As) a w) (hk:Ts[k]?=some (tvs v)):St M w0 n Γ (box (Ts.set k (Bk R m)) q::As) a w:=by
 have hf:∀j,fps (box (Ts.set k (Bk R m)) q::As) j->fps (AJ R m v::box Ts q::As) j:=by
  rintro j ⟨A,hA,H⟩;rcases Zp.1 hA with rfl | hA
  ·exact⟨box Ts q,sm,H⟩
  ·exact⟨A,by simp[hA],H⟩
 have s:∀j,free (hold M.m (AJ R m v::box Ts q::As)) w j->free (hold M.m (box (Ts.set k (Bk R m)) q::As)) w j:=λj H=>⟨H.1,λhm=>H.2 (hm.imp id (hf j))⟩;have O:=h.own (AJ R m v) sm;have W:=h.own (box Ts q) sm;have L:=pairwise_cons.1 h.apart;have a0:∀j,(AJ R m v).fp j->free (hold M.m (box (Ts.set k (Bk R m)) q::As)) w j:=by
  intro j H;have X:=h.fresh _ Zs j H;refine⟨X.2,?_⟩;rintro (hm | ⟨A,hA,Z⟩)
  ·have:=h.m0 j hm;rcases X.1 with hb | hb
   ·exact this.2 hb
   ·omega
  ·rcases Zp.1 hA with rfl | hA
   ·exact L.1 (box Ts q) sm j H Z
   ·exact L.1 A (by simp[hA]) j H Z
 have a1:(Bk R m).ok (free (hold M.m (box (Ts.set k (Bk R m)) q::As)) w) w v:=mE O s a0;refine⟨h.size,h.defers,h.grow,h.m0,?_,?_,?_,λp hp=>p.2.keep s (λ_ _=>rfl) (h.Xp p hp)⟩
 ·intro A hA;rcases Zp.1 hA with rfl | hA
  ·have⟨b,cur,e',hq,hb,hc,h1⟩:=W;refine⟨b,cur,e',hq,hb,⟨by rw[hc.1];simp,λj T u hT hu=>?_⟩,h1⟩;by_cases H:k=j
   ·subst H;have a2:k<Ts.length:=(Zf.1 hk).1;simp[a2] at hT;subst hT;have a3:u=v:=(hc.2 k _ u hk hu).1;rw[a3];exact a1
   ·rw[getElem?_set_ne H] at hT;exact T.keep s (λ_ _=>rfl) (hc.2 j T u hT hu)
  ·exact A.keep s (λ_ _=>rfl) (λ_ _=>rfl) (h.own A (by simp[hA]))
 ·intro A hA j H;rcases Zp.1 hA with rfl | hA
  ·exact h.fresh (box Ts q) sm j H
  ·exact h.fresh A (by simp[hA]) j H
 ·have h2:=pairwise_cons.1 L.2;exact pairwise_cons.2 ⟨λB hB j H=>h2.1 B hB j H,h2.2⟩
end
class TokI (P:Program) (t:TypeId) {α:outParam Type} (R:outParam (Rep α)) (b:outParam Nat) (z:outParam Value):Prop where ok:TOk P t R b z
class UndI (P:Program) (t:TypeId) (d:outParam TypeDesc):Prop where ok:P.underlying t=some d
class TokV (P:Program) (t:TypeId) (b:outParam Nat) (z:outParam Value):Prop where ok:TOk P t rVal b z
class AnyI (P:Program) (ti ts:outParam TypeId):Prop where ok:True
class SpcS (P:Program) (f:FuncId) (S:outParam Prop):Prop where ok:S
class FldI (P:Program) (s:TypeId) (f:Nat) (off:outParam Nat):Prop where ok:Qz P s f off
class Spc0 (P:Program) (f:FuncId) {C:outParam Type} (F:outParam (Option C)) (Ts:outParam (List Ty)) (T:outParam (C->Ty)):Prop where
 ok:∀{r},F=some r->FnOk P f Ts [] (λ_=>[]) (λ_=>T r)
class Spc1 (P:Program) (f:FuncId) {A C:outParam Type} (F:outParam (A->Option C)) (Ts:outParam (A->List Ty)) (T:outParam (C->Ty)):Prop where
 ok:∀{a r},F a=some r->FnOk P f (Ts a) [] (λ_=>[]) (λ_=>T r)
class Spc2 (P:Program) (f:FuncId) {A B C:outParam Type} (F:outParam (A->B->Option C)) (Ts:outParam (A->B->List Ty)) (T:outParam (C->Ty)):Prop where
 ok:∀{a b r},F a b=some r->FnOk P f (Ts a b) [] (λ_=>[]) (λ_=>T r)
class Spc3 (P:Program) (f:FuncId) {A B D C:outParam Type} (F:outParam (A->B->D->Option C)) (Ts:outParam (A->B->D->List Ty)) (T:outParam (C->Ty)):Prop where
 ok:∀{a b d r},F a b d=some r->FnOk P f (Ts a b d) [] (λ_=>[]) (λ_=>T r)
class Spc4 (P:Program) (f:FuncId) {A B D E C:outParam Type} (F:outParam (A->B->D->E->Option C)) (Ts:outParam (A->B->D->E->List Ty)) (T:outParam (C->Ty)):Prop where
 ok:∀{a b d e r},F a b d e=some r->FnOk P f (Ts a b d e) [] (λ_=>[]) (λ_=>T r)
class Spc5 (P:Program) (f:FuncId) {A B D E G C:outParam Type} (F:outParam (A->B->D->E->G->Option C)) (Ts:outParam (A->B->D->E->G->List Ty)) (T:outParam (C->Ty)):Prop where
 ok:∀{a b d e g r},F a b d e g=some r->FnOk P f (Ts a b d e g) [] (λ_=>[]) (λ_=>T r)
def look:List (Nat×Ty)->Nat->Option Ty
 | [],_=>none
 | (s,T)::Γ,t=>bif Nat.beq s t then some T else look Γ t
def Nh {t:Nat}:∀{Γ:List (Nat×Ty)},look Γ t=some T->(t,T)∈Γ
 | (s,U)::Γ,h=>by
  unfold look at h
  cases e:Nat.beq s t with
  | true=>rw[e] at h;obtain rfl:=Zn h;rw[Nat.eq_of_beq_eq_true e];exact Zs
  | false=>rw[e] at h;exact ZE _ (Nh h)
def Fct.l {s:Nat} (h:look Γ s=some T):Fct Γ (.tmp s) T:=λ_ _ _ h0=>h0 (s,T) (Nh h) rfl
def Fct.kI {k:IntKind} {n:Int}:Fct Γ (.const (.int k n)) (tv (.int k n)):=.k
def Fct.kB {b:Bool}:Fct Γ (.const (.bool b)) (tv (.bool b)):=.k
def Grd.l {b:Bool} (h:look Γ dg=some (tv (.bool b))):Grd Γ dg want (b==want):=by intro F w a h0;have:get a dg=.bool b:=h0 _ (Nh h) rfl;rw[this]
def Grd.lc {b s:Bool} (h:look Γ dg=some (CE s (tv (.bool b)))):Grd Γ dg want (s&&(b==want)):=by have⟨i,hi⟩:=ZX.1 (Nh h);exact Grd.c i hi
def tru {c:Bool} (h:c=true:=by
 first
 | with_reducible assumption
 | exact beqT (by with_reducible assumption)
 | exact beqF (by with_reducible assumption)
 | exact RM (by with_reducible assumption) (by with_reducible assumption)
 | exact RM (by with_reducible assumption) (beqT (by with_reducible assumption))
 | exact RM (by with_reducible assumption) (beqF (by with_reducible assumption))):c=true:=h
def opt_h {c:Bool} {x:Option α} {d:α} (hc:c=true) (h:opt c x d=some r):x=some r:=Dm h hc
def hy {p:Prop} (h:p:=by
 first
 | exact opt_h (by with_reducible assumption) (by with_reducible assumption)
 | exact Dm (by with_reducible assumption) tru
 | exact rm_ok (by with_reducible assumption)
 | with_reducible assumption):p:=h
def Fct.a0 {x:Operand} (h:Fct Γ x T:=by
 first
 | with_reducible exact Fct.kI
 | with_reducible exact Fct.kB
 | ((with_reducible apply Fct.cond);((with_reducible apply Fct.l);exact rfl);exact tru)
 | ((with_reducible apply Fct.l);exact rfl)
 | ((with_reducible apply Fct.left);(with_reducible apply Fct.l);exact rfl)
 | ((with_reducible apply Fct.right);(with_reducible apply Fct.l);exact rfl)
 | ((with_reducible apply Fct.left);(with_reducible apply Fct.cond);((with_reducible apply Fct.l);exact rfl);exact tru)
 | ((with_reducible apply Fct.right);(with_reducible apply Fct.cond);((with_reducible apply Fct.l);exact rfl);exact tru)
 | with_reducible exact Fct.nilsl
 | with_reducible exact Fct.k
 | exact Fct.kI
 | exact Fct.kB
 | with_reducible exact Fct.fnE
 | exact Fct.nilsl
 | exact Fct.k):Fct Γ x T:=h
def Fct.lfn {x:Operand} {f:FuncId} {Tc:List Ty} (h:Fct Γ x (CZ f Tc):=by
 first
 | with_reducible exact Fct.fnE
 | ((with_reducible apply Fct.l);exact rfl)
 | ((with_reducible apply Fct.cond);((with_reducible apply Fct.l);exact rfl);exact tru)):Fct Γ x (CZ f Tc):=h
section
variable {f:FuncId} {A B C D E:Type}
def Fct.c1 {F:A->Option C} {Ts b:A->List Ty} {T:C->Ty} (h:Fct Γ x (CZ f Tc)) (hc:Qj P f) (s:Spc1 P f F Ts T) (e:∀a,b a++Tc=Ts a):Fct Γ x (tfn P [] b T λa=>F a):=h.Xo (Jo hc λ_ _ q=>e _▸s.ok q)
def Fct.c2 {F:A->B->Option C} {Ts:A->B->List Ty} {H:A->List Ty} {T:C->Ty} {b:B} (h:Fct Γ x (CZ f Tc)) (hc:Qj P f) (s:Spc2 P f F Ts T) (e:∀a,H a++Tc=Ts a b):Fct Γ x (tfn P [] H T λa=>F a b):=h.Xo (Jo hc λ_ _ q=>e _▸s.ok q)
def Fct.c3 {F:A->B->D->Option C} {Ts:A->B->D->List Ty} {H:A->List Ty} {T:C->Ty} {b:B} {c:D} (h:Fct Γ x (CZ f Tc)) (hc:Qj P f) (s:Spc3 P f F Ts T) (e:∀a,H a++Tc=Ts a b c):Fct Γ x (tfn P [] H T λa=>F a b c):=h.Xo (Jo hc λ_ _ q=>e _▸s.ok q)
def Fct.c4 {F:A->B->D->E->Option C} {Ts:A->B->D->E->List Ty} {H:A->List Ty} {T:C->Ty} {b:B} {c:D} {d:E} (h:Fct Γ x (CZ f Tc)) (hc:Qj P f) (s:Spc4 P f F Ts T) (e:∀a,H a++Tc=Ts a b c d):Fct Γ x (tfn P [] H T λa=>F a b c d):=h.Xo (Jo hc λ_ _ q=>e _▸s.ok q)
def Fct.p2 {F:A->B->Option C} {Ts:A->B->List Ty} {b:A×B->List Ty} {T:C->Ty} (h:Fct Γ x (CZ f Tc)) (hc:Qj P f) (s:Spc2 P f F Ts T) (e:∀a,b a++Tc=Ts a.1 a.2):Fct Γ x (tfn P [] b T λa=>F a.1 a.2):=h.Xo (Jo hc λ_ _ q=>e _▸s.ok q)
end
def Fct.a {x:Operand} (h:Fct Γ x T:=by
 first
 | exact Fct.a0
 | (apply Fct.c1;exact Fct.lfn;exact cal;exact inferInstance;(intro _;exact rfl))
 | (apply Fct.c2;exact Fct.lfn;exact cal;exact inferInstance;(intro _;exact rfl))
 | (apply Fct.c3;exact Fct.lfn;exact cal;exact inferInstance;(intro _;exact rfl))
 | (apply Fct.c4;exact Fct.lfn;exact cal;exact inferInstance;(intro _;exact rfl))
 | (apply Fct.p2;exact Fct.lfn;exact cal;exact inferInstance;(intro _;exact rfl))):Fct Γ x T:=h
def Grd.a {c:Bool} (h:Grd Γ dg want c:=by
 first
 | ((with_reducible apply Grd.l);exact rfl)
 | ((with_reducible apply Grd.lc);exact rfl)):Grd Γ dg want c:=h
def Bd.a {b:Option Operand} {d i:Int} (h:Bd Γ b d i:=by
 first
 | exact Bd.no _
 | exact Bd.op Fct.a):Bd Γ b d i:=h
def arg {xs:List Operand} (h:Args Γ U xs Ts:=by
 repeat first
  | exact .nil
  | refine .cons (.of Fct.a) ?_
 fail_if_success apply id):Args Γ U xs Ts:=h
section
variable {d:Option Tmp} {fid:FuncId} {xs:List Operand} {ts:Array TypeId} {A B C D E:Type}
def Ni {S:Prop} {b:List Atom} {T:Value->Ty} [h:SpcS P fid S] (k:S->FnOk P fid Ts b N T) (ha:Args Γ [] xs Ts) (hc:Qj P fid):OpJ P ⟨d,.call { callee:=.value (.func fid),args:=xs.toArray,argTypes:=ts },ty,pos,af,g⟩ Γ [] b N T:=QO hc (k h.ok) ha
def mN {ti ts:TypeId} {s:Str} {x:Operand} [AnyI P ti ts] (ht:P.underlying ts=some .string) (hx:Fct Γ x (tv (.string (sB s)))):OpJ P ⟨d,.makeInterface ts x,ty,pos,af,g⟩ Γ [] [] (λ_=>[]) (λ_=>tv (AnyV.val ti ts (.str s))):=op_mkS ht hx
def mO {ti ts:TypeId} {n:Int} {x:Operand} [AnyI P ti ts] (ht:P.underlying ti=some (.int .i64)) (hx:Fct Γ x (tv (.int .i64 n))):OpJ P ⟨d,.makeInterface ti x,ty,pos,af,g⟩ Γ [] [] (λ_=>[]) (λ_=>tv (AnyV.val ti ts (.int n))):=op_mkI ht hx
def op_c0 {F:Option C} {T:C->Ty} [s:Spc0 P fid F Ts T] {r:C} (ha:Args Γ [] xs Ts) (h:F=some r) (hc:Qj P fid):OpJ P ⟨d,.call { callee:=.value (.func fid),args:=xs.toArray,argTypes:=ts },ty,pos,af,g⟩ Γ [] [] (λ_=>[]) (λ_=>T r):=QO hc (s.ok h) ha
def op_c1 {F:A->Option C} {Ts:A->List Ty} {T:C->Ty} [s:Spc1 P fid F Ts T] {a:A} {r:C} (ha:Args Γ [] xs (Ts a)) (h:F a=some r) (hc:Qj P fid):OpJ P ⟨d,.call { callee:=.value (.func fid),args:=xs.toArray,argTypes:=ts },ty,pos,af,g⟩ Γ [] [] (λ_=>[]) (λ_=>T r):=QO hc (s.ok h) ha
def op_c2 {F:A->B->Option C} {Ts:A->B->List Ty} {T:C->Ty} [s:Spc2 P fid F Ts T] {a:A} {b:B} {r:C} (ha:Args Γ [] xs (Ts a b)) (h:F a b=some r) (hc:Qj P fid):OpJ P ⟨d,.call { callee:=.value (.func fid),args:=xs.toArray,argTypes:=ts },ty,pos,af,g⟩ Γ [] [] (λ_=>[]) (λ_=>T r):=QO hc (s.ok h) ha
def op_c3 {F:A->B->D->Option C} {Ts:A->B->D->List Ty} {T:C->Ty} [s:Spc3 P fid F Ts T] {a:A} {b:B} {e:D} {r:C} (ha:Args Γ [] xs (Ts a b e)) (h:F a b e=some r) (hc:Qj P fid):OpJ P ⟨d,.call { callee:=.value (.func fid),args:=xs.toArray,argTypes:=ts },ty,pos,af,g⟩ Γ [] [] (λ_=>[]) (λ_=>T r):=QO hc (s.ok h) ha
def op_c4 {F:A->B->D->E->Option C} {Ts:A->B->D->E->List Ty} {T:C->Ty} [s:Spc4 P fid F Ts T] {a:A} {b:B} {e:D} {f:E} {r:C} (ha:Args Γ [] xs (Ts a b e f)) (h:F a b e f=some r) (hc:Qj P fid):OpJ P ⟨d,.call { callee:=.value (.func fid),args:=xs.toArray,argTypes:=ts },ty,pos,af,g⟩ Γ [] [] (λ_=>[]) (λ_=>T r):=QO hc (s.ok h) ha
def op_c5 {F:A->B->D->E->G->Option C} {Ts:A->B->D->E->G->List Ty} {T:C->Ty} [s:Spc5 P fid F Ts T] {a:A} {b:B} {e:D} {f:E} {k:G} {r:C} (ha:Args Γ [] xs (Ts a b e f k)) (h:F a b e f k=some r) (hc:Qj P fid):OpJ P ⟨d,.call { callee:=.value (.func fid),args:=xs.toArray,argTypes:=ts },ty,pos,af,g⟩ Γ [] [] (λ_=>[]) (λ_=>T r):=QO hc (s.ok h) ha
end
structure FV where
 α:Type
 R:Rep α
 u:α
def fvs (l:List FV):List Ty:=l.flatMap λf=>f.R.cs f.u
def offs:Nat->List FV->List (Nat×Nat)
 | _,[]=>[]
 | o,f::l=>(o,f.R.n)::offs (o+f.R.n) l
structure Bld (P:Program) (t:TypeId) (Z:List FV):Prop where
 ok:∃(fs:Array Field) (pl:Array (Nat×Nat)) (z:Value),P.underlying t=some (.struct fs)/\(∀w,((fs.mapM λf=>do pure (f.offset,<-sizeOf f.type):Sem (Array (Nat×Nat)))).run P w=.ok pl w)/\(P.info? t).bind (·.zero)=some z/\(∀F w,QW (fvs Z) F w z.cells.toList)/\pl.toList=offs 0 Z
inductive DN (Γ:List (Nat×Ty)):List (Nat×Operand)->Nat->List FV->List FV->Prop where
 | nil {k:Nat} {Z:List FV}:DN Γ [] k Z Z
 | hit {k:Nat} {x:Operand} {ps:List (Nat×Operand)} {α:Type} {R:Rep α} {u0 u:α} {Z Z':List FV} (h:Fct Γ x (R.ty u)) (hs:DN Γ ps (k+1) Z Z'):DN Γ ((k,x)::ps) k (⟨α,R,u0⟩::Z) (⟨α,R,u⟩::Z')
 | miss {k:Nat} {ps:List (Nat×Operand)} {f:FV} {Z Z':List FV} (hs:DN Γ ps (k+1) Z Z'):DN Γ ps k (f::Z) (f::Z')
def DN.parts {pl:Array (Nat×Nat)} {k:Nat} {Z b:List FV} (h:DN Γ ps k Z b):∀(pre:List Ty),(∀i,pl[k+i]?=(offs pre.length Z)[i]?)->H8 Γ pl ps (pre++fvs Z) (pre++fvs b):=by
 induction h with
 | nil=>exact λpre _=>.nil _
 | @hit k x ps α R s u Z b h L H=>
  intro pre hp;have h0:=hp 0;have e1:fvs (⟨α,R,s⟩::Z)=R.cs s++fvs Z:=by unfold fvs;rw[flatMap_cons]
  have e2:fvs (⟨α,R,u⟩::b)=R.cs u++fvs b:=by unfold fvs;rw[flatMap_cons]
  have O:splice (pre++fvs (⟨α,R,s⟩::Z)) pre.length (R.cs u)=(pre++R.cs u)++fvs Z:=by rw[e1];unfold splice;rw[take_left,R.len,<-R.len s,<-ZJ pre,show pre.length+(R.cs s).length=(pre++R.cs s).length by rw[Ze],drop_left]
  refine .cons (R:=R) (u:=u) (off:=pre.length) (by rw[Nat.add_zero] at h0;rw[h0];rfl) h (by rw[e1,Ze,Ze,R.len];omega) ?_;rw[O,e2,<-ZJ];refine H (pre++R.cs u) λi=>?_;have:=hp (i+1);rw[show k+1+i=k+(i+1) by omega,this,Ze,R.len];rfl
 | @miss k ps f Z b L H=>
  intro pre hp;have e1:∀W,pre++fvs (f::W)=(pre++f.R.cs f.u)++fvs W:=λW=>by unfold fvs;rw[flatMap_cons,ZJ]
  rw[e1,e1];refine H (pre++f.R.cs f.u) λi=>?_;have:=hp (i+1);rw[show k+1+i=k+(i+1) by omega,this,Ze,f.R.len];rfl
def pf {k:Nat} {Z b:List FV} (h:DN Γ ps k Z b:=by
 repeat first
  | exact DN.nil
  | (apply DN.hit;exact .a)
  | apply DN.miss
 fail_if_success apply id):DN Γ ps k Z b:=h
section
variable {d:Option Tmp} {y:Operand} {β:Type} {R2:Rep β}
def mP {Z b:List FV} {u:α} (h:Bld P t Z) (hz:TOk P t R bytes z) (hps:DN Γ ps 0 Z b) (hu:R.cs u=fvs b) (ha:R.agg=true):OpJ P ⟨d,.build t ps.toArray,ty,pos,af,g⟩ Γ [] [] (λ_=>[]) (λ_=>R.ty u):=by
 have⟨X,pl,z',s,H,L,O,W⟩:=h.ok;have e:R.ty u=tagg (fvs b):=by unfold Rep.ty;rw[ha,hu]
 rw[e];apply Cm s H L O;have:=hps.parts (pl:=pl) [] λi=>by rw[Nat.zero_add];show pl[i]?=(offs 0 Z)[i]?;rw[<-W,Array.getElem?_toList]
 simpa using this
structure Bl (P:Program) (t:TypeId) (Z l:List FV) (T:Ty):Prop where
 ok:∀{Γ:List (Nat×Ty)} {d:Option Tmp} {ty:TypeId} {pos:String} {af:Array Edge} {g:Option (Nat×Bool)} {ps:List (Nat×Operand)} (hps:DN Γ ps 0 Z l),OpJ P ⟨d,.build t ps.toArray,ty,pos,af,g⟩ Γ [] [] (λ_=>[]) (λ_=>T)
def Bl.of {Z l:List FV} {u:α} (b:Bld P t Z) (hz:TOk P t R bytes z) (hu:R.cs u=fvs l:=by rfl) (ha:R.agg=true:=by rfl):Bl P t Z l (R.ty u):=⟨λh=>mP b hz h hu ha⟩
structure BlA (P:Program) (t:TypeId) {α:Type} (R:Rep α) (l:List α) (T:Ty):Prop where
 ok:∀{Γ:List (Nat×Ty)} {d:Option Tmp} {ty:TypeId} {pos:String} {af:Array Edge} {g:Option (Nat×Bool)} {ps:List (Nat×Operand)} (hps:BU Γ R 0 ps l),OpJ P ⟨d,.build t ps.toArray,ty,pos,af,g⟩ Γ [] [] (λ_=>[]) (λ_=>T)
class BldL (P:Program) (t:TypeId) (S:outParam Prop):Prop where ok:S
def op_bld {S:Prop} {ps:Array (Nat×Operand)} [h:BldL P t S] {T:Value->Ty} (k:S->OpJ P ⟨d,.build t ps,ty,pos,af,g⟩ Γ [] [] (λ_=>[]) T):OpJ P ⟨d,.build t ps,ty,pos,af,g⟩ Γ [] [] (λ_=>[]) T:=k h.ok
def mR {n:Nat} {us:List α} {u:β} (hu:P.underlying t=some (.array n e)) (b:TOk P e R bytes z) {s:Nat} (hz:TOk P t R2 s zt) (hps:BU Γ R 0 ps us) (h:zt.cells.size=us.length * R.n) (hc:R2.cs u=us.flatMap R.cs) (ha:R2.agg=true):
  OpJ P ⟨d,.build t ps.toArray,ty,pos,af,g⟩ Γ [] [] (λ_=>[]) (λ_=>R2.ty u):=by
 have e:R2.ty u=tagg (us.flatMap R.cs):=by unfold Rep.ty;rw[ha,hc]
 rw[e];refine kZ hu b ?_ h (sa hps);have⟨i,hi,H,_⟩:=hz.info;rw[hi];exact H
def BlA.of {n:Nat} {l:List α} {u:β} (hu:P.underlying t=some (.array n e)) (b:TOk P e R bytes z) {H:Nat} (hz:TOk P t R2 H zt) (s:zt.cells.size=l.length * R.n:=by rfl) (hc:R2.cs u=l.flatMap R.cs:=by rfl) (ha:R2.agg=true:=by rfl):BlA P t R l (R2.ty u):=⟨λh=>mR hu b hz h s hc ha⟩
def mS {len:Nat} {us:List α} (ht:P.underlying t=some (.slice e)) (hz:TOk P e R bytes z) (hps:BU Γ R 0 ps us) (hlen:us.length=len) (h24:len * R.n<=16777216): OpJ P ⟨d,.buildSlice t len ps.toArray,ty,pos,af,g⟩ Γ [] [] (λ_=>[]) (λ_=>tsl R us):=Gd ht hz (sa hps) hlen h24
def prt {us:List α} (h:BU Γ R i ps us:=by
 repeat first
  | exact BU.nil _
  | (apply BU.cons;exact .a)
 fail_if_success apply id):BU Γ R i ps us:=h
def mT {n:Nat} {k:IntKind} {i:Int} (ht:P.underlying t=some (.array n e)) (hz:TOk P e R bytes z) (hx:Fct Γ x (tptr Ts)) (hi:Fct Γ y (tv (.int k i))) (h:i=Int.ofNat j) (b:Nat.blt j n=true): OpJ P ⟨d,.indexAddr t x y,ty,pos,af,g⟩ Γ [] [] (λ_=>[]) (λ_=>tptr (Ts.drop (j * R.n))):=lZ j h ht hz hx hi (by rw[Nat.blt_eq] at b;exact b)
def mU (ht:P.underlying ty=some (.slice e)) (hz:TOk P e R bytes z):OpJ P ⟨d,.assign (.const (.slice none 0 0)),ty,pos,af,g⟩ Γ [] [] (λ_=>[]) (λ_=>tand (tv (.slice none 0 0)) (tsl R ([]:List α))):=Ql (Fct.k.both .nilsl)
def mV (ht:P.underlying ty=some (.slice e)) (hz:TOk P e R bytes z):OpJ P ⟨d,.move (.const (.slice none 0 0)),ty,pos,af,g⟩ Γ [] [] (λ_=>[]) (λ_=>tand (tv (.slice none 0 0)) (tsl R ([]:List α))):=CS (Fct.k.both .nilsl)
def leb2 {a b:Nat} (h:Nat.ble a b=true:=by exact rfl):a<=b:=Nat.le_of_ble_eq_true h
end
def mW {d:Option Tmp} {ty t:TypeId} {pos:String} {g:Option (Nat×Bool)} {x:Operand} {bytes:Nat} {z:Value} {u:α} (hz:TOk P t R bytes z) (hx:Fct Γ x (R.ty u)):OpJ P ⟨d,.box t x,ty,pos,af,g⟩ Γ [] [] (λ_=>[]) (λ_=>tptr (R.cs u)):=Mj hx
def cps {xs:List Operand} (h:Caps Γ xs Ts:=by
 repeat first
  | exact Caps.nil
  | (apply Caps.cons;exact .a0)
 fail_if_success apply id):Caps Γ xs Ts:=h
def oj {o:Oper} (h:OpJ P o Γ [] [] (λ_=>[]) (λ_=>T):=by
 first
 | ((with_reducible apply mU);exact UndI.ok;exact TokI.ok)
 | ((with_reducible apply mV);exact UndI.ok;exact TokI.ok)
 | ((with_reducible apply CS);exact .a)
 | ((with_reducible apply Ql);exact .a)
 | ((with_reducible apply QM);exact TokI.ok;exact .a;exact rfl)
 | ((with_reducible apply Q4);exact TokI.ok;exact .a)
 | ((with_reducible apply QP);exact FldI.ok;exact .a)
 | ((with_reducible apply JN);exact UndI.ok;exact TokI.ok;exact .a;exact .a;exact hy)
 | ((with_reducible apply Hz);exact UndI.ok;exact .a)
 | ((with_reducible apply MN);exact .a;exact .a)
 | ((with_reducible apply Pk);exact .a;exact .a)
 | ((with_reducible apply JA);exact .a;exact .a)
 | ((with_reducible apply JS);exact .a;exact .a)
 | ((with_reducible apply UO);exact .a;exact .a)
 | ((with_reducible apply Ea);exact .a;exact rfl)
 | ((with_reducible apply Pl);exact .a;(intro _;exact .a))
 | ((with_reducible apply op_or);exact .a;(intro _;exact .a))
 | ((with_reducible apply UQ);exact .a;exact .a)
 | ((with_reducible apply UX);exact .a;exact .a)
 | ((with_reducible apply UF);exact .a;exact .a)
 | ((with_reducible apply op_mul);exact .a;exact .a)
 | ((with_reducible apply lY);exact .a)
 | ((with_reducible apply mW);exact TokI.ok;exact .a)
 | ((with_reducible apply kR);exact UndI.ok;exact TokI.ok;exact .a;exact .a;exact .a;exact hy)
 | ((with_reducible apply UZ);exact .a;exact .a)
 | ((with_reducible apply UY);exact .a;exact .a)
 | ((with_reducible apply Mo);exact .a)
 | ((with_reducible apply Tx);exact .a)
 | ((with_reducible apply T3);exact .a;exact .a;exact nz_ne hy)
 | ((with_reducible apply Tq);exact .a;exact .a;exact nz_ne hy)
 | ((with_reducible apply op_c1);exact arg;exact hy;exact cal)
 | ((with_reducible apply op_c2);exact arg;exact hy;exact cal)
 | ((with_reducible apply op_c3);exact arg;exact hy;exact cal)
 | ((with_reducible apply op_c4);exact arg;exact hy;exact cal)
 | ((with_reducible apply op_c5);exact arg;exact hy;exact cal)
 | ((with_reducible apply op_c0);exact arg;exact hy;exact cal)
 | ((with_reducible apply lU);exact .a;exact .a)
 | ((with_reducible apply lV);exact .a;exact .a)
 | ((with_reducible apply Pb);exact .a;exact .a;exact hy)
 | ((with_reducible apply op_lenS');exact UndI.ok;exact .a)
 | ((with_reducible apply op_eqNil');exact UndI.ok;exact .a)
 | ((with_reducible apply lO);exact UndI.ok;exact .a)
 | ((with_reducible apply lP);exact UndI.ok;exact .a)
 | ((with_reducible apply mT);exact UndI.ok;exact TokI.ok;exact .a;exact .a;exact rfl;exact rfl)
 | ((with_reducible apply mS);exact UndI.ok;exact TokI.ok;exact prt;exact rfl;exact leb2)
 | ((with_reducible apply op_bld);intro s;(first | (apply Bl.ok;apply s;case hps=>exact pf) | (apply BlA.ok;apply s;case hps=>exact prt)))
 | ((with_reducible apply lX);exact UndI.ok;exact .a;exact .a;exact .a;exact hy)
 | ((with_reducible apply lW);exact UndI.ok;exact .a;exact .a;exact hy)
 | ((with_reducible apply mN);exact UndI.ok;exact .a)
 | ((with_reducible apply mO);exact UndI.ok;exact .a)
 | ((with_reducible apply UD);exact cps)
 | ((with_reducible apply Nf);exact .a;exact arg;exact hy)
 | ((with_reducible apply Nf (u:=(_,_)));exact .a;exact arg;exact hy)
 | ((with_reducible apply Nf (u:=(_,_,_)));exact .a;exact arg;exact hy)):OpJ P o Γ [] [] (λ_=>[]) (λ_=>T):=h
section
variable {d:Tmp}
end
def Tr (P:Program) (M:Fr) (w0:World) (n:Nat) (Γ:List (Nat×Ty)) (As:List Atom) (c:Code) (Q:Exit->Act->World->Prop):Prop:=∀a w,St M w0 n Γ As a w->c.wp P Q a w
def To (M:Fr) (w0:World) (n:Nat) (Γ:List (Nat×Ty)) (As:List Atom) (K:Act->World->Prop):Prop:=∀a w,St M w0 n Γ As a w->K a w
def ty0 (T:Ty):TyN:=⟨[],λ_=>T⟩
def ty1 (i:Nat) (f:Value->Ty):TyN:=⟨[i],λl=>f (l.getD 0 undef)⟩
inductive Out:List (Nat×Ty)->List (Nat×Ty)->Prop
  | nil:Out [] []
  | cons {s:Nat} {T T':Ty} {l m:List (Nat×Ty)} (e:T=T') (h:Out l m):Out ((s,T)::l) ((s,T')::m)
def Out.eq {l m:List (Nat×Ty)} (h:Out l m):l=m:=by
  induction h with
  | nil=>rfl
  | cons e _ b=>rw[b,e]
def ty0_eq:TyN.ty new (ty0 T)=T:=rfl
def ty1_eq {f:Value->Ty}:TyN.ty new (ty1 i f)=f (new i):=rfl
inductive OutA:List Atom->List Atom->Prop
  | nil:OutA [] []
  | cons {A B:Atom} {l m:List Atom} (e:A=B) (h:OutA l m):OutA (A::l) (B::m)
def OutA.eq {l m:List Atom} (h:OutA l m):l=m:=by
  induction h with
  | nil=>rfl
  | cons e _ b=>rw[b,e]
def RS {u:Nat} {A:Atom} (h:V[u]?=some (v0 A)):ver V u new=A:=by unfold ver;rw[h]
def Nj {u:Nat} {f:Value->Atom} (h:V[u]?=some (v1 i f)):ver V u new=f (new i):=by unfold ver;rw[h];rfl
def Nk {u:Nat} {f:Value->Value->Atom} (h:V[u]?=some (v2 i j f)):ver V u new=f (new i) (new j):=by unfold ver;rw[h];rfl
def ver_v3 {u k:Nat} {f:Value->Value->Value->Atom} (h:V[u]?=some (v3 i j k f)):ver V u new=f (new i) (new j) (new k):=by unfold ver;rw[h];rfl
def outs {l m:List (Nat×Ty)} (h:Out l m:=by
  repeat first
    | exact Out.nil
    | (apply Out.cons;(first | with_reducible exact ty0_eq | with_reducible exact ty1_eq | exact rfl))
  fail_if_success apply id):Out l m:=h
def outA {l m:List Atom} (h:OutA l m:=by
  repeat first
    | exact OutA.nil
    | (apply OutA.cons;(first | exact RS rfl | exact Nj rfl | exact Nk rfl | exact ver_v3 rfl))
  fail_if_success apply id):OutA l m:=h
def outB {l m:List Atom} (h:OutA l m:=by
  repeat first
    | exact OutA.nil
    | (apply OutA.cons;exact rfl)
  fail_if_success apply id):OutA l m:=h
@[reducible] def vb (i : Nat) (Ts : List Ty) : Ver := v1 i (λv => box Ts v)
@[reducible] def vo (i : Nat) (R : Rep α) (e : TypeId) (xs : List α): Ver := v1 i (λv => own R e xs v)
def Nx (i:Nat) (ns:List Nat):Prop:=∀k j,ns[k]?=some j->j=i+1+k
def Nx.one (h:Nx i (j::ns)):j=i+1:=h 0 j rfl
def Nx.tl (h:Nx i (j::ns)):Nx j ns:=λk m hm=>by have:=h (k+1) m hm;have:=h.one;omega
@[reducible] def lits : List Nat := 1 :: 2 :: 3 :: 4 :: 5 :: 6 :: 7 :: 8 :: 9 :: 10 :: 11 :: 12 :: 13 :: 14 :: 15 :: 16 :: 17 :: 18 :: 19 :: 20 :: 21 :: 22 :: 23 :: 24 :: 25 :: 26 :: 27 :: 28 :: 29 :: 30 :: 31 :: 32 :: 33 :: 34 :: 35 :: 36 :: 37 :: 38 :: 39 :: 40 :: 41 :: 42 :: 43 :: 44 :: 45 :: 46 :: 47 :: 48 :: 49 :: 50 :: 51 :: 52 :: 53 :: 54 :: 55 :: 56 :: 57 :: 58 :: 59 :: 60 :: 61 :: 62 :: 63 :: 64 :: 65 :: 66 :: 67 :: 68 :: 69 :: 70 :: 71 :: 72 :: 73 :: 74 :: 75 :: 76 :: 77 :: 78 :: 79 :: 80 :: 81 :: 82 :: 83 :: 84 :: 85 :: 86 :: 87 :: 88 :: 89 :: 90 :: 91 :: 92 :: 93 :: 94 :: 95 :: 96 :: 97 :: 98 :: 99 :: 100 :: 101 :: 102 :: 103 :: 104 :: 105 :: 106 :: 107 :: 108 :: 109 :: 110 :: 111 :: 112 :: 113 :: 114 :: 115 :: 116 :: 117 :: 118 :: 119 :: 120 :: 121 :: 122 :: 123 :: 124 :: 125 :: 126 :: 127 :: 128 :: 129 :: []
theorem Nl:Nx 0 lits:=λk j h=>by
  have e:lits=range' 1 129:=rfl;have b:k<129:=by have:=(Zf.1 h).1;rw[e,length_range'] at this;exact this
  rw[e,getElem?_range' b] at h;have:=Zn h;omega
def RunM (mks ns:List Nat) (P:Program) (ops:List Oper) (V:List Ver) (new:Nat->Value) (i:Nat) (Γ:List (Nat×Ty)) (os:List Oper) (is:List Info):Prop:=Nx i ns->Run P ops V new i Γ os is
def Had (mks:List Nat) (V:List Ver) (new:Nat->Value) (i u:Nat) (A:Atom):Prop:=Nat.ble (mks.getD u 0) i=true/\ver V u new=A
def Mk (mks:List Nat) (V:List Ver) (new:Nat->Value) (i m:Nat) (N:Value->Atom):Prop:=Nat.beq (mks.getD m 0) (i+1)=true/\∀x,ver V m (upd new i x)=N x
section
variable {k:Nat} {f:Value->Atom} {f2:Value->Value->Atom}
structure Cn (k:Nat) (p:Prop):Prop where ok:p
def Cn.nx {p:Prop} (h:Cn k p):Cn (k+1) p:=⟨h.ok⟩
def Had.a0 (hm:Nat.ble (mks.getD u 0) i=true) (h:V[u]?=some (v0 A)):Cn u (Had mks V new i u A):=⟨hm,RS h⟩
def Had.a1 (hm:Nat.ble (mks.getD u 0) i=true) (h:V[u]?=some (v1 j f)) (e:f (new j)=A):Cn u (Had mks V new i u A):=⟨hm,e▸Nj h⟩
def Had.a2 (hm:Nat.ble (mks.getD u 0) i=true) (h:V[u]?=some (v2 j k f2)) (e:f2 (new j) (new k)=A):Cn u (Had mks V new i u A):=⟨hm,e▸Nk h⟩
def Mk.a0 (hm:Nat.beq (mks.getD u 0) (i+1)=true) (h:V[u]?=some (v0 A)):Cn u (Mk mks V new i u (λ_=>A)):=⟨hm,λ_=>RS h⟩
def Mk.a1 (hm:Nat.beq (mks.getD u 0) (i+1)=true) (h:V[u]?=some (v1 i f)):Cn u (Mk mks V new i u f):=⟨hm,λx=>by rw[Nj h,NV]⟩
def Mk.a1' (hm:Nat.beq (mks.getD u 0) (i+1)=true) (h:V[u]?=some (v1 j f)) (b:Nat.beq j i=false) (e:f (new j)=A):Cn u (Mk mks V new i u (λ_=>A)):=⟨hm,λx=>by rw[Nj h,FF (Nat.ne_of_beq_eq_false b),e]⟩
def Mk.a2' (hm:Nat.beq (mks.getD u 0) (i+1)=true) (h:V[u]?=some (v2 j k f2)) (b:Nat.beq j i=false) (s:Nat.beq k i=false) (e:f2 (new j) (new k)=A):Cn u (Mk mks V new i u (λ_=>A)):=⟨hm,λx=>by rw[Nk h,FF (Nat.ne_of_beq_eq_false b),FF (Nat.ne_of_beq_eq_false s),e]⟩
def Mk.a2a (hm:Nat.beq (mks.getD u 0) (i+1)=true) (h:V[u]?=some (v2 j i f2)) (b:Nat.beq j i=false):Cn u (Mk mks V new i u (λv=>f2 (new j) v)):=⟨hm,λx=>by rw[Nk h,NV,FF (Nat.ne_of_beq_eq_false b)]⟩
end
def had {u:Nat} {A:Atom} (h:Cn 14 (Had mks V new i u A):=by
  repeat first
  | exact Had.a0 rfl rfl | exact Had.a1 rfl rfl rfl | exact Had.a2 rfl rfl rfl
  | apply Cn.nx):Had mks V new i u A:=h.ok
def mkd {m:Nat} {N:Value->Atom} (h:Cn 14 (Mk mks V new i m N):=by
  repeat first
  | exact Mk.a0 rfl rfl | exact Mk.a1 rfl rfl | exact Mk.a1' rfl rfl rfl rfl | exact Mk.a2' rfl rfl rfl rfl rfl | exact Mk.a2a rfl rfl rfl
  | apply Cn.nx):Mk mks V new i m N:=h.ok
section
variable {d:Tmp} {g m:Nat} {c:Bool}
def RunM.n:RunM mks ns P ops V new i Γ [] []:=λ_=>.nil i Γ
def Ab (mks:List Nat) (P:Program) (ops:List Oper) (V:List Ver) (new:Nat->Value) (i:Nat) (Γ:List (Nat×Ty)) (o:Oper) (I:Info) (Γ':List (Nat×Ty)):Prop:=∀os is,Run P ops V new (i+1) Γ' os is->Run P ops V new i Γ (o::os) (I::is)
def stp {o:Oper} {I:Info} (h:Ab mks P ops V new i Γ o I Γ') (k:RunM mks ns P ops V new j Γ' os is):RunM mks (j::ns) P ops V new i Γ (o::os) (I::is):=λhx=>h os is (by have h:=k hx.tl;rw[hx.one] at h;exact h)
def Ab.r0 (s:elem (i+1) mks=false) (h:OpJ P ⟨some d,ins,ty,pos,af,none⟩ Γ [] [] (λ_=>[]) (λ_=>T)):Ab mks P ops V new i Γ ⟨some d,ins,ty,pos,af,none⟩ ⟨ty0 T,[],[],[]⟩ ((d,T)::Γ):=λ_ _ b=>Run.p rfl h b
def Ab.rn (h:OpJ P ⟨none,ins,ty,pos,af,none⟩ Γ [] [] (λ_=>[]) (λ_=>T)):Ab mks P ops V new i Γ ⟨none,ins,ty,pos,af,none⟩ ⟨ty0 T,[],[],[]⟩ Γ:=λ_ _ b=>Run.p rfl h b
def Ab.rg (s:elem (i+1) mks=false) (H:(ops[g]?).bind (·.dst)=some dg) (hc:Grd Γ dg want c) (h:c=true->OpJ P ⟨some d,ins,ty,pos,af,some (g,want)⟩ Γ [] [] (λ_=>[]) (λ_=>T)): Ab mks P ops V new i Γ ⟨some d,ins,ty,pos,af,some (g,want)⟩ ⟨ty0 (CE c T),[],[],[]⟩ ((d,CE c T)::Γ):=λ_ _ b=>Run.g rfl H hc h b
structure Cu (q k:Nat) (p:Prop):Prop where c:p
def Cu.ok {k:Nat} {p:Prop} (h:Cu 0 k p):p:=h.c
def Cu.nx {q k:Nat} {p:Prop} (h:Cu (q+1) k p):Cu q (k+1) p:=⟨h.c⟩
def Ab.rd {f:Value->Ty} {q k:Nat} (s:Nat.beq q i=false) (h:∀v,new q=v->OpJ P ⟨some d,ins,ty,pos,af,none⟩ Γ [] [] (λ_=>[]) (λ_=>f v)): Cu q k (Ab mks P ops V new i Γ ⟨some d,ins,ty,pos,af,none⟩ ⟨ty1 q f,[],[],[]⟩ ((d,f (new q))::Γ)):=.mk λ_ _ b=>Run.pd q s rfl (h _ rfl) b
def Ab.ru (h:OpJ P ⟨some d,ins,ty,pos,af,none⟩ Γ [A] [] (λ_=>[]) (λ_=>T)) (hA:Had mks V new i u A):Ab mks P ops V new i Γ ⟨some d,ins,ty,pos,af,none⟩ ⟨ty0 T,[u],[],[]⟩ ((d,T)::Γ):=λ_ _ b=>Run.u [u] (by simp[hA.2]) rfl h b
def Ab.rgu (s:(ops[g]?).bind (·.dst)=some dg) (hc:Grd Γ dg want c) (h:c=true->OpJ P ⟨some d,ins,ty,pos,af,some (g,want)⟩ Γ [A] [] (λ_=>[]) (λ_=>T)) (hA:Had mks V new i u A): Ab mks P ops V new i Γ ⟨some d,ins,ty,pos,af,some (g,want)⟩ ⟨ty0 (CE c T),[u],[],[]⟩ ((d,CE c T)::Γ):=λ_ _ b=>Run.gu [u] (by simp[hA.2]) rfl s hc h b
def Ab.rm {f:Value->Ty} {N:Value->Atom} (h:OpJ P ⟨some d,ins,ty,pos,af,none⟩ Γ [] [] (λv=>[N v]) f) (hV:Mk mks V new i m N):
    Ab mks P ops V new i Γ ⟨some d,ins,ty,pos,af,none⟩ ⟨ty1 i f,[],[],[m]⟩ ((d,f (new i))::Γ):=λ_ _ b=>Run.m [] [m] rfl (by
    funext x
    show [ver V m (upd new i x)]=_;rw[hV.2]) rfl h b
def Ab.re {f:Value->Ty} {N:Value->Atom} (h:OpJ P ⟨some d,ins,ty,pos,af,none⟩ Γ [] [A] (λv=>[N v]) f) (hA:Had mks V new i u A) (hV:Mk mks V new i m N):
    Ab mks P ops V new i Γ ⟨some d,ins,ty,pos,af,none⟩ ⟨ty1 i f,[],[u],[m]⟩ ((d,f (new i))::Γ):=λ_ _ b=>Run.e [] [u] [m] rfl (by simp[hA.2]) (by
    funext x
    show [ver V m (upd new i x)]=_;rw[hV.2]) rfl h b
def Ab.rt {s:Atom} {u2:Nat} (h:OpJ P ⟨none,ins,ty,pos,af,none⟩ Γ [s] [A] (λ_=>[B]) (λ_=>tany)) (hA:Had mks V new i u A) (hU:Had mks V new i u2 s) (hV:Mk mks V new i m (λ_=>B)):
    Ab mks P ops V new i Γ ⟨none,ins,ty,pos,af,none⟩ ⟨ty1 i λ_=>tany,[u2],[u],[m]⟩ Γ:=λ_ _ b=>Run.e [u2] [u] [m] (by simp[hU.2]) (by simp[hA.2]) (by
    funext x
    show [ver V m (upd new i x)]=_;rw[hV.2]) rfl h b
def Ab.rk (h:OpJ P ⟨some d,ins,ty,pos,af,none⟩ Γ [] [A] (λ_=>[B]) (λ_=>T)) (hA:Had mks V new i u A) (hV:Mk mks V new i m (λ_=>B)):
    Ab mks P ops V new i Γ ⟨some d,ins,ty,pos,af,none⟩ ⟨ty0 T,[],[u],[m]⟩ ((d,T)::Γ):=λ_ _ b=>.step (.plain rfl (by
    have e1:([m].map λv=>ver V v (upd new i undef))=[B]:=by show [ver V m (upd new i undef)]=_;rw[hV.2]
    have e2:(λx=>[m].map λv=>ver V v (upd new i x))=λ_=>[B]:=by funext x;show [ver V m (upd new i x)]=_;rw[hV.2]
    have s:([u].map λv=>ver V v new)=[A]:=by show [ver V u new]=_;rw[hA.2]
    show OpJ P _ Γ [] ([u].map λv=>ver V v new) (λx=>[m].map λv=>ver V v (upd new i x)) (λ_=>T);rw[e2,s];exact h)) b
def Ab.rs (h:OpJ P ⟨none,ins,ty,pos,af,none⟩ Γ [] [A] (λ_=>[B]) (λ_=>tany)) (hA:Had mks V new i u A) (hV:Mk mks V new i m (λ_=>B)):
    Ab mks P ops V new i Γ ⟨none,ins,ty,pos,af,none⟩ ⟨ty1 i λ_=>tany,[],[u],[m]⟩ Γ:=λ_ _ b=>Run.e [] [u] [m] rfl (by simp[hA.2]) (by
    funext x
    show [ver V m (upd new i x)]=_;rw[hV.2]) rfl h b
end
structure Zok (P:Program) (t:TypeId) {α:Type} (R:Rep α) (a:α) (z:Value):Prop where ok:∀F w,(R.ty a).ok F w z
class ZokI (P:Program) (t:TypeId) {α:outParam Type} (R:outParam (Rep α)) (a:outParam α) (z:outParam Value):Prop where ok:Zok P t R a z
section
variable {d:Option Tmp} {y:Operand}
def mX {a:α} (hz:TOk P t R bytes z) (h0:Zok P t R a z):OpJ P ⟨d,.alloc t,ty,pos,af,g⟩ Γ [] [] (λp=>[box (R.cs a) p]) (λp=>tv p):=Eb hz h0.ok
def mY {n:Int} {k s:IntKind} {b:α} {us:List α} (ht:P.underlying t=some (.slice e)) (hz:TOk P e R bytes z) (h0:Zok P e R b z) (hb:bytes<=2048) (hx:Fct Γ x (tv (.int k n))) (hy:Fct Γ y (tv (.int s n))) (h:mk n b=some us):OpJ P ⟨d,.makeSlice t x y,ty,pos,af,g⟩ Γ [] [] (λv=>[own R e us v]) (λv=>tv v):=Vf ht hz h0.ok hb hx hy h
def mZ {len:Nat} {us:List α} (ht:P.underlying t=some (.slice e)) (hz:TOk P e R bytes z) (hps:BU Γ R 0 ps us) (hlen:us.length=len) (h24:len * R.n<=16777216) (hm:len<=16777216): OpJ P ⟨d,.buildSlice t len ps.toArray,ty,pos,af,g⟩ Γ [] [] (λv=>[own R e us v]) (λv=>tv v):=M9 ht hz (sa hps) hlen h24 hm
def mQ {u:α} (hz:TOk P t R bytes z) (hx:Fct Γ x (R.ty u)):OpJ P ⟨d,.box t x,ty,pos,af,g⟩ Γ [] [] (λp=>[box (R.cs u) p]) (λp=>tv p):=JR hx
end
def leb' {a b:Nat} (h:Nat.ble a b=true:=by exact rfl):a<=b:=Nat.le_of_ble_eq_true h
def sto {o:Oper} {I:Info} (h:Ab mks P ops V new i Γ o I Γ':=by
  first
    | ((with_reducible apply Ab.r0);exact rfl;exact oj)
    | ((with_reducible apply Ab.rg);exact rfl;exact rfl;exact Grd.a;(intro hc;exact oj))
    | ((with_reducible apply Ab.ru)
       (first
        | ((with_reducible apply FD)
           case hz=>exact TokI.ok
           case hp=>exact .a
           case hA=>exact had
           case h=>exact hy)
        | ((with_reducible apply Jb)
           case ht=>exact UndI.ok
           case hx=>exact .a
           case hA=>exact had)
        | ((with_reducible apply Q5)
           case hf=>exact FldI.ok
           case hp=>exact .a
           case hA=>exact had)
        | ((with_reducible apply Fy)
           case hx=>exact .a
           case hA=>exact had)
        | ((with_reducible apply CC)
           case ht=>exact UndI.ok
           case hz=>exact TokI.ok
           case hx=>exact .a
           case hi=>exact .a
           case hA=>exact had
           case h=>exact hy)
        | ((with_reducible apply Vl)
           case ht=>exact UndI.ok
           case hz=>exact TokI.ok
           case hx=>exact .a
           case hi=>exact .a
           case hA=>exact had
           case h=>exact hy)
        | ((with_reducible apply Pu)
           case hz=>exact TokI.ok
           case hp=>exact .a
           case hA=>exact had
           case h=>exact rfl)
        | ((with_reducible apply lB)
           case hf=>exact FldI.ok
           case hp=>exact .a
           case hA=>exact had
           case hne=>exact idx_ne hy)
        | ((with_reducible apply OpJ.glo);(with_reducible apply Ni)
           (intro s;apply s)
           case ha=>exact arg
           case hA=>exact had
           case k=>exact hy
           case hc=>exact cal)
        | ((with_reducible apply NQ)
           case hz=>exact TokI.ok
           case hp=>exact .a
           case hA=>exact had
           case h=>exact rfl)
        | ((with_reducible apply Vu)
           case hz=>exact TokI.ok
           case hp=>exact .a
           case hA=>exact had
           case h=>exact hy
           case hf=>exact rfl)
        | ((with_reducible apply Fx)
           case hz=>exact TokV.ok
           case hp=>exact .a
           case hA=>exact had
           case h=>exact rfl)
        | ((with_reducible apply lJ)
           case hz=>exact TokV.ok
           case hp=>exact .a
           case hA=>exact had)))
    | ((with_reducible apply Ab.rm)
       (first
        | ((with_reducible apply mX)
           case hz=>exact TokI.ok
           case h0=>exact ZokI.ok
           case hV=>exact mkd)
        | ((with_reducible apply mQ)
           case hz=>exact TokI.ok
           case hx=>exact .a
           case hV=>exact mkd)
        | ((with_reducible apply mZ)
           case ht=>exact UndI.ok
           case hz=>exact TokI.ok
           case hps=>exact prt
           case hlen=>exact rfl
           case h24=>exact leb'
           case hm=>exact leb'
           case hV=>exact mkd)
        | ((with_reducible apply Ni)
           (intro s;apply s)
           case ha=>exact arg
           case k=>exact hy
           case hc=>exact cal
           case hV=>exact mkd)
        | ((with_reducible apply mY)
           case ht=>exact UndI.ok
           case hz=>exact TokI.ok
           case h0=>exact ZokI.ok
           case hb=>exact leb'
           case hx=>exact .a
           case hy=>exact .a
           case h=>exact hy
           case hV=>exact mkd)))
    | ((with_reducible apply Ab.rs)
       (first
        | ((with_reducible apply Db)
           case hz=>exact TokI.ok
           case hp=>exact .a
           case hx=>exact .a
           case hA=>exact had
           case h=>exact hy
           case hV=>exact mkd)
        | ((with_reducible apply Vk)
           case hz=>exact TokI.ok
           case hp=>exact .a
           case hx=>exact .a
           case hA=>exact had
           case h0=>exact hy
           case h=>exact hy
           case hV=>exact mkd
           case hoff=>exact leb'
           case hu=>exact rfl)
        | ((with_reducible apply RF)
           case hz=>exact TokI.ok
           case hp=>exact .a
           case hx=>exact .a
           case hA=>exact had
           case hV=>exact mkd
           case hl=>exact leb')
        | ((with_reducible apply Ec)
           case hz=>exact TokI.ok
           case hp=>exact .a
           case hx=>exact .a
           case hA=>exact had
           case hV=>exact mkd
           case hl=>exact leb')))
    | ((with_reducible apply Ab.re)
       (first
        | ((with_reducible apply Ni)
           (intro s;apply s)
           case ha=>exact arg
           case hA=>exact had
           case k=>exact hy
           case hc=>exact cal
           case hV=>exact mkd)
        | ((with_reducible apply Ef)
           case ht=>exact UndI.ok
           case hz=>exact TokI.ok
           case hb=>exact leb'
           case hx=>exact .a
           case hy=>exact .a
           case hA=>exact had
           case hV=>exact mkd
           case h=>exact hy)))
    | ((with_reducible apply Ab.rt)
       (first
        | ((with_reducible apply l6)
           case hz=>exact TokV.ok
           case hp=>exact .a
           case hx=>exact .a
           case hU=>exact had
           case hA=>exact had
           case hV=>exact mkd
           case hl=>exact leb')
        | ((with_reducible apply l5)
           case hz=>exact TokV.ok
           case hp=>exact .a
           case hx=>exact .a
           case hU=>exact had
           case hA=>exact had
           case hV=>exact mkd
           case hl=>exact leb')))
    | ((with_reducible apply Ab.rk);(with_reducible apply Ni)
       (intro s;apply s)
       case ha=>exact arg
       case hA=>exact had
       case k=>exact hy
       case hc=>exact cal
       case hV=>exact mkd)
    | ((with_reducible apply Ab.rgu);exact rfl;exact Grd.a;intro hc
       (first
        | ((with_reducible apply FD)
           case hz=>exact TokI.ok
           case hp=>exact .a
           case hA=>exact had
           case h=>exact hy)
        | ((with_reducible apply Jb)
           case ht=>exact UndI.ok
           case hx=>exact .a
           case hA=>exact had)
        | ((with_reducible apply Q5)
           case hf=>exact FldI.ok
           case hp=>exact .a
           case hA=>exact had)
        | ((with_reducible apply NQ)
           case hz=>exact TokI.ok
           case hp=>exact .a
           case hA=>exact had
           case h=>exact rfl)
        | ((with_reducible apply CC)
           case ht=>exact UndI.ok
           case hz=>exact TokI.ok
           case hx=>exact .a
           case hi=>exact .a
           case hA=>exact had
           case h=>exact hy)))
    | ((with_reducible apply Ab.rn);exact oj)
    | (apply Cu.ok (k:=69)
       repeat first
       | ((with_reducible apply Ab.rd);exact rfl;(intro v hv;rw[hv];exact oj))
       | apply Cu.nx
       fail_if_success apply id)):Ab mks P ops V new i Γ o I Γ':=h
def runs {os:List Oper} {is:List Info} (h:RunM mks ns P ops V new i Γ os is:=by
  repeat first
    | with_reducible exact RunM.n
    | ((with_reducible apply stp);exact sto)
  fail_if_success apply id):RunM mks ns P ops V new i Γ os is:=h
def rnn:RunM mks ns P ops V new i Γ [] []:=RunM.n
structure Fuel (n:Nat):Prop
def Fuel.d {n:Nat} (b:Fuel (n+1)):Fuel n:=⟨⟩
section
variable {ns':List Nat} {i':Nat} {o:Oper} {os':List Oper} {I:Info} {is':List Info}
def pr (m:Nat) (k:RunM mks ns' P ops V new i' Γ' os' is') (h:Fuel m->RunM mks ns' P ops V new i' Γ' os' is'->RunM mks ns P ops V new i Γ os is:=by
  intro hm b
  repeat (replace hm:=hm.d;(with_reducible apply stp);exact sto)
  exact b):RunM mks ns P ops V new i Γ os is:=h ⟨⟩ k
def rx (f:Run P ops V new (i+1) Γ' os is->Run P ops V new i Γ (o::os) (I::is)) (m:Nat) (k:RunM mks ns' P ops V new i' Γ'' os' is')
    (h:Fuel m->RunM mks ns' P ops V new i' Γ'' os' is'->RunM mks ns P ops V new j Γ' os is:=by
  intro hm b
  repeat (replace hm:=hm.d;(with_reducible apply stp);exact sto)
  exact b):RunM mks (j::ns) P ops V new i Γ (o::os) (I::is):=λhx=>f (by
  have h:=h ⟨⟩ k hx.tl;rw[hx.one] at h;exact h)
end
def bk {β:Type} {x:Option α} {f:α->Option β} {a:α} {r:β} (h:x=some a) (k:x.bind f=some r):f a=some r:=by rw[h] at k;exact k
inductive Wk:List (Nat×Ty)->List (Nat×Ty)->Prop
  | nil:Wk [] []
  | cons {s:Nat} {T T':Ty} {l m:List (Nat×Ty)} (e:∀F w v,T.ok F w v->T'.ok F w v) (h:Wk l m):Wk ((s,T)::l) ((s,T')::m)
def Wk.facts {l m:List (Nat×Ty)} (h:Wk l m):∀p∈m,∃q∈l,q.1=p.1/\∀F w v,q.2.ok F w v->p.2.ok F w v:=by
  induction h with
  | nil=>intro p hp;cases hp
  | @cons s T T' l m e h b=>
    intro p hp;rcases Zp.1 hp with rfl | hp
    · exact⟨(s,T),sm,rfl,e⟩
    · have⟨q,H,L,O⟩:=b p hp;exact⟨q,by simp[H],L,O⟩
def St.wk {M:Fr} {n:Nat} {a:Act} (h:St M w0 n Γ As a w) (k:Wk Γ Γ'):St M w0 n Γ' As a w:=⟨h.size,h.defers,h.grow,h.m0,h.own,h.fresh,h.apart,λp hp=>by have⟨q,b,e,s⟩:=k.facts p hp;rw[<-e];exact s _ _ _ (h.Xp q b)⟩
def wks {l m:List (Nat×Ty)} (h:Wk l m:=by
  repeat first
    | exact Wk.nil
    | (apply Wk.cons;(first | exact λ_ _ _ h=>h | exact λ_ _ _ h=>h.1 | exact λ_ _ _ h=>h.2))
  fail_if_success apply id):Wk l m:=h
def bts:Nat->Nat->Nat->List Nat
  | 0,_,_=>[]
  | f+1,n,i=>bif Nat.beq n 0 then [] else bif Nat.beq (n % 2) 1 then i::bts f (n / 2) (i+1) else bts f (n / 2) (i+1)
def dgs:Nat->Nat->List Nat
  | 0,_=>[]
  | f+1,n=>bif Nat.beq n 0 then [] else (n % 128 - 1)::dgs f (n / 128)
def pks (n:Nat):List Nat:=bif Nat.beq (n % 2) 0 then bts 128 (n / 2) 0 else dgs 64 (n / 2)
def mixL (l:List α):Nat->Nat->Nat->List α->List α
  | 0,_,_,_=>[]
  | f+1,n,q,m=>bif Nat.beq n 0 then [] else bif Nat.beq (n % 128) 1 then (match m with | []=>[] | a::m=>a::mixL l f (n / 128) q m) else bif Nat.beq (n % 128) 127 then l.drop q++mixL l f (n / 128) q m else match l[n % 128 - 2]? with | some a=>a::mixL l f (n / 128) (n % 128 - 1) m | none=>[]
section
variable {n:Nat} {As':List Atom} {Q:Exit->Act->World->Prop} {K:Act->World->Prop} {c c1 c2:Code} {id:Nat} {draw:Bool}
def Qa (L:Nat) (O:Tr P M w0 n Γ' As c Q) (b:∀new,RunM [] lits P ops (verA As []) new 0 Γ ops is:=by intro new;exact runs)
    (s:chk ops is ((verA As []).map (·.ds)) (Γ.map (·.1)) As.length (verA As []).length n=true:=by kernel_rfl) (hA:∀new,Cb (verA As []) is new=As:=by intro new;rfl)
    (W:∀new,Out (Cc (outG ops is Γ new) (pks L)) Γ':=by intro new;exact outs) (hm:P.follows .mixedOrders=true:=by exact mx):Tr P M w0 n Γ As (Code.seq (Code.region id ops.toArray draw) c) Q:=λa w H=>
  wp_seq (CQ hm [] H (λnew=>b new Nl) s λnew X w' h=>O X w' (by have:=h.pick (pks L);rw[hA new,(W new).eq] at this;exact this))
def QJ (L:Nat) (O:To M w0 n Γ' As (Q .normal)) (b:∀new,RunM [] lits P ops (verA As []) new 0 Γ ops is:=by intro new;exact runs)
    (s:chk ops is ((verA As []).map (·.ds)) (Γ.map (·.1)) As.length (verA As []).length n=true:=by kernel_rfl) (hA:∀new,Cb (verA As []) is new=As:=by intro new;rfl)
    (W:∀new,Out (Cc (outG ops is Γ new) (pks L)) Γ':=by intro new;exact outs) (hm:P.follows .mixedOrders=true:=by exact mx):Tr P M w0 n Γ As (Code.region id ops.toArray draw) Q:=λa w H=>
  CQ hm [] H (λnew=>b new Nl) s λnew X w' h=>O X w' (by have:=h.pick (pks L);rw[hA new,(W new).eq] at this;exact this)
variable {Γn:(Nat->Value)->List (Nat×Ty)} {An:(Nat->Value)->List Atom}
def QU (b:List Ver) (W:List Nat) (O:Nat) (X:∀new,Tr P M w0 n (Γn new) (An new) c Q) (s:∀new,RunM (As.map (λ_=>0)++W) lits P ops (verA As b) new 0 Γ ops is:=by intro new;exact runs)
    (H:chk ops is ((verA As b).map (·.ds)) (Γ.map (·.1)) As.length (verA As b).length n=true:=by kernel_rfl) (hA:∀new,OutA (Cb (verA As b) is new) (An new):=by intro new;exact outA)
    (Z:∀new,Out (Cc (outG ops is Γ new) (pks O)) (Γn new):=by intro new;exact outs) (hm:P.follows .mixedOrders=true:=by exact mx):Tr P M w0 n Γ As (Code.seq (Code.region id ops.toArray draw) c) Q:=λa w L=>
  wp_seq (CQ hm b L (λnew=>s new Nl) H λnew a' w' h=>X new a' w' (by have:=h.pick (pks O);rw[(hA new).eq,(Z new).eq] at this;exact this))
def AB (b:List Ver) (W:List Nat) (O:Nat) (X:∀new,To M w0 n (Γn new) (An new) (Q .normal)) (s:∀new,RunM (As.map (λ_=>0)++W) lits P ops (verA As b) new 0 Γ ops is:=by intro new;exact runs)
    (H:chk ops is ((verA As b).map (·.ds)) (Γ.map (·.1)) As.length (verA As b).length n=true:=by kernel_rfl) (hA:∀new,OutA (Cb (verA As b) is new) (An new):=by intro new;exact outA)
    (Z:∀new,Out (Cc (outG ops is Γ new) (pks O)) (Γn new):=by intro new;exact outs) (hm:P.follows .mixedOrders=true:=by exact mx):Tr P M w0 n Γ As (Code.region id ops.toArray draw) Q:=λa w L=>
  CQ hm b L (λnew=>s new Nl) H λnew a' w' h=>X new a' w' (by have:=h.pick (pks O);rw[(hA new).eq,(Z new).eq] at this;exact this)
def Qf (h:∀K:Act->World->Prop,(∀{Γ As},Tr P M w0 n Γ As c2 Q->To M w0 n Γ As K)->Tr P M w0 n Γ As c1 (Exit.then K Q)):Tr P M w0 n Γ As (.seq c1 c2) Q:=λa w H=>wp_seq_k λK b=>h K (λt a w H=>b a w (t a w H)) a w H
def Qu (h:To M w0 n Γ As (Q .normal)):Tr P M w0 n Γ As .skip Q:=λa w H=>wp_skip (h a w H)
def QQ (h:To M w0 n Γ As (Q (.exit id))):Tr P M w0 n Γ As (.exit id) Q:=λa w H=>wp_exit (h a w H)
def Qk (h:Tr P M w0 n Γ As c (Exit.inBlock id Q)):Tr P M w0 n Γ As (.block id c) Q:=λa w H=>wp_block (h a w H)
def Qo {s:Nat} {b:Bool} {x:Option α} (h:(if b then x else y)=some r) (ht:b=true->x=some r->Tr P M w0 n ((s,tv (.bool b))::Γ) As c1 Q) (hf:b=false->y=some r->Tr P M w0 n ((s,tv (.bool b))::Γ) As c2 Q): Tr P M w0 n ((s,tv (.bool b))::Γ) As (.cond (.tmp s) c1 c2) Q:=λa w H=>wi H h (λe q=>ht e q a w H) (λe q=>hf e q a w H)
def DJ (i:Nat) {s:Nat} {b:Bool} (ht:b=true->Tr P M w0 n Γ As c1 Q) (hf:b=false->Tr P M w0 n Γ As c2 Q) (hi:Γ[i]?=some (s,tv (.bool b)):=by rfl):Tr P M w0 n Γ As (.cond (.tmp s) c1 c2) Q:=λa w H=>Vi i H hi (λe=>ht e a w H) (λe=>hf e a w H)
def tTestN (i:Nat) {s:Nat} (ht:xs=[]->Tr P M w0 n Γ As c1 Q) (hf:Tr P M w0 n Γ As c2 Q) (hi:Γ[i]?=some (s,tnil xs false):=by rfl):Tr P M w0 n Γ As (.cond (.tmp s) c1 c2) Q:=λa w H=>lC i H hi (λe=>ht e a w H) (hf a w H)
def tAtSt {a:Act} (H:St M w0 n Γ As a w) (k:Tr P M w0 n Γ As c Q):c.wp P Q a w:=k a w H
def tIfs {s:Nat} {b:Bool} {x:Option α} (h:(if b then x else y)=some r) (W:Nat) (ht:b=true->x=some r->Tr P M w0 n ((s,tv (.bool b))::Γ') As c1 (Exit.then (λa w=>c2.wp P Q a w) Q)) (hf:b=false->y=some r->Tr P M w0 n ((s,tv (.bool b))::Γ') As c2 Q) (L:∀new,RunM [] lits P ops (verA As []) new 0 Γ ops is:=by intro new;exact runs) (O:chk ops is ((verA As []).map (·.ds)) (Γ.map (·.1)) As.length (verA As []).length n=true:=by kernel_rfl) (hA:∀new,Cb (verA As []) is new=As:=by intro new;rfl) (X:∀new,Out (Cc (outG ops is Γ new) (pks W)) ((s,tv (.bool b))::Γ'):=by intro new;exact outs) (hm:P.follows .mixedOrders=true:=by exact mx):Tr P M w0 n Γ As (Code.seq (Code.seq (Code.region id ops.toArray draw) (Code.cond (.tmp s) c1 .skip)) c2) Q:=λa w H=>
  wp_seq (Qa W (Qo h ht λe q=>Qu λa w H=>hf e q a w H) L O hA X hm a w H)
def Q1 (f:∀a w,St M w0 n Γ As a w->St M w0 n Γ' As' a w) (k:Tr P M w0 n Γ'' As'' c Q) (e:Out Γ' Γ'':=by exact outs) (e2:OutA As' As'':=by exact outB):Tr P M w0 n Γ As c Q:=λa w H=>k a w (by have:=f a w H;rw[e.eq,e2.eq] at this;exact this)
def AA (f:∀a w,St M w0 n Γ As a w->St M w0 n Γ' As' a w) (k:To M w0 n Γ'' As'' K) (e:Out Γ' Γ'':=by exact outs) (e2:OutA As' As'':=by exact outB):To M w0 n Γ As K:=λa w H=>k a w (by have:=f a w H;rw[e.eq,e2.eq] at this;exact this)
def tFz (i:Nat) {s:Nat} {q:Value} (k:Tr P M w0 n ((s,tptr Ts)::Γ) As' c Q) (L:Bj (i::(range As.length).erase i)=true:=by rfl) (e:OutA (Xk As (i::(range As.length).erase i)) (box Ts q::As'):=by exact outB):Tr P M w0 n ((s,tv q)::Γ) As c Q:=λa w H=>k a w (by
  have b:=H.Xk _ L;rw[e.eq] at b;refine ((b.Xl 0 rfl).add 0 rfl (U:=tptr Ts) (λ_ _ _ h=>h.2)).facts λp hp=>?_;rcases Zp.1 hp with rfl | hp
  · simp
  · simp[hp])
def tSl (is:List Nat) (k:Tr P M w0 n Γ As' c Q) (b:Bj is=true:=by rfl) (e:OutA (Xk As is) As':=by exact outB):Tr P M w0 n Γ As c Q:=λa w H=>k a w (e.eq▸H.Xk is b)
def tNl (R:Rep α) (t:TypeId) (k:Tr P M w0 n Γ (own R t ([]:List α) (.slice none 0 0)::As) c Q):Tr P M w0 n Γ As c Q:=λa w H=>k a w (H.nil R t)
def Pr (k:Tr P M w0 n Γ' As c Q) (e:Wk Γ Γ':=by exact wks):Tr P M w0 n Γ As c Q:=λa w H=>k a w (H.wk e)
def QN (k:To M w0 n Γ' As K) (b:Nat) (e:Wk (Cc Γ (pks b)) Γ':=by exact wks):To M w0 n Γ As K:=λa w H=>k a w ((H.pick (pks b)).wk e)
def Qx {b:τ->List (Nat×Ty)} {h:τ->List Atom} (k:∀p,C p->To M w0 n (b p) (h p) K) {p:τ} (e:C p) (s:Nat) (e1:Wk (Cc Γ (pks s)) (b p):=by exact wks) (e2:As=h p:=by rfl):To M w0 n Γ As K:=λa w H=>k p e a w (e2▸(H.pick (pks s)).wk e1)
def Q7 {b:τ->ν->List (Nat×Ty)} {h:τ->ν->List Atom} (k:∀p v,C p->To M w0 n (b p v) (h p v) K) (v:ν) {p:τ} (e:C p) (s:Nat) (e1:Wk (Cc Γ (pks s)) (b p v):=by exact wks) (e2:As=h p v:=by rfl):To M w0 n Γ As K:=λa w H=>k p v e a w (e2▸(H.pick (pks s)).wk e1)
def D2 {h:Type} {b:τ->ν->h->List (Nat×Ty)} {s:τ->ν->h->List Atom} (k:∀p v u,C p->To M w0 n (b p v u) (s p v u) K) (v:ν) (u:h) {p:τ} (e:C p) (L:Nat) (e1:Wk (Cc Γ (pks L)) (b p v u):=by exact wks) (e2:As=s p v u:=by rfl):To M w0 n Γ As K:=λa w H=>k p v u e a w (e2▸(H.pick (pks L)).wk e1)
def AC {b:σ->List (Nat×Ty)} {O:σ->List Atom} (h:Qr body s0=some out) (Gn:σ->List (Nat×Ty)) (cg:Nat) (An:σ->List Atom) (ca:Nat) (X:Nat) (L:∀s o K,body s=some o->(∀r,o=.inr r->r=out)->(∀W,o=.inl W->To M w0 n (b W) (O W) K)->Tr P M w0 n (b s) (O s) c (Exit.then K Q)) (eg:∀s,Out (mixL Γ 64 cg 0 (Gn s)) (b s):=by intros;exact outs) (ea:∀s,OutA (mixL As 64 ca 0 (An s)) (O s):=by intros;exact outB) (e:Wk (Cc Γ (pks X)) (b s0):=by exact wks) (e2:As=O s0:=by rfl):Tr P M w0 n Γ As (.loop c) Q:=λa w H=>
  JM body (λs a w=>St M w0 n (b s) (O s) a w) out s0 h (e2▸(H.pick (pks X)).wk e) λs o a w K Z hb ho hk=>L s o K hb ho (λW q a w H=>hk W a w q H) a w Z
def AT {b:σ->τ->List (Nat×Ty)} {O:σ->τ->List Atom} (h:Qr body s0=some out) (Gn:σ->τ->List (Nat×Ty)) (cg:Nat) (An:σ->τ->List Atom) (ca:Nat) (v0:τ) (X:Nat) (L:∀s v o K,body s=some o->(∀r,o=.inr r->r=out)->(∀W v',o=.inl W->To M w0 n (b W v') (O W v') K)->Tr P M w0 n (b s v) (O s v) c (Exit.then K Q)) (eg:∀s v,Out (mixL Γ 64 cg 0 (Gn s v)) (b s v):=by intros;exact outs) (ea:∀s v,OutA (mixL As 64 ca 0 (An s v)) (O s v):=by intros;exact outB) (e:Wk (Cc Γ (pks X)) (b s0 v0):=by exact wks) (e2:As=O s0 v0:=by rfl):Tr P M w0 n Γ As (.loop c) Q:=λa w H=>
  JM body (λs a w=>∃v,St M w0 n (b s v) (O s v) a w) out s0 h ⟨v0,e2▸(H.pick (pks X)).wk e⟩ λs o a w K ⟨v,Z⟩ hb ho hk=>L s v o K hb ho (λW v' q a w H=>hk W a w q ⟨v',H⟩) a w Z
def M5 {O:Type} {b:σ->τ->O->List (Nat×Ty)} {W:σ->τ->O->List Atom} (h:Qr body s0=some out) (Gn:σ->τ->O->List (Nat×Ty)) (cg:Nat) (An:σ->τ->O->List Atom) (ca:Nat) (v0:τ) (u0:O) (pk:Nat) (L:∀s v u o K,body s=some o->(∀r,o=.inr r->r=out)->(∀X v' Z,o=.inl X->To M w0 n (b X v' Z) (W X v' Z) K)->Tr P M w0 n (b s v u) (W s v u) c (Exit.then K Q)) (eg:∀s v u,Out (mixL Γ 64 cg 0 (Gn s v u)) (b s v u):=by intros;exact outs) (ea:∀s v u,OutA (mixL As 64 ca 0 (An s v u)) (W s v u):=by intros;exact outB) (e:Wk (Cc Γ (pks pk)) (b s0 v0 u0):=by exact wks) (e2:As=W s0 v0 u0:=by rfl):Tr P M w0 n Γ As (.loop c) Q:=λa w H=>
  JM body (λs a w=>∃v,∃u,St M w0 n (b s v u) (W s v u) a w) out s0 h ⟨v0,u0,e2▸(H.pick (pks pk)).wk e⟩ λs o a w K ⟨v,u,hI⟩ hb ho hk=>L s v u o K hb ho (λX v' Z q a w H=>hk X a w q ⟨v',Z,H⟩) a w hI
def tJ0 {Γo:List (Nat×Ty)} {Ao:List Atom} (Gn:List (Nat×Ty)) (cg:Nat) (An:List Atom) (ca:Nat) (K:Act->World->Prop) (b:To M w0 n Γo Ao K) (k:To M w0 n Γo Ao K->Tr P M w0 n Γ As c Q) (h:Out (mixL Γ 64 cg 0 Gn) Γo:=by exact outs) (s:OutA (mixL As 64 ca 0 An) Ao:=by exact outB):Tr P M w0 n Γ As c Q:=k b
section
variable {τ ν:Type} {Γo:τ->List (Nat×Ty)} {Ao:τ->List Atom} (Gn:τ->List (Nat×Ty)) (cg:Nat) (An:τ->List Atom) (ca:Nat) (K:Act->World->Prop)
def tJ1 (b:∀p,To M w0 n (Γo p) (Ao p) K) (k:(∀p,To M w0 n (Γo p) (Ao p) K)->Tr P M w0 n Γ As c Q) (h:∀p,Out (mixL Γ 64 cg 0 (Gn p)) (Γo p):=by intros;exact outs) (s:∀p,OutA (mixL As 64 ca 0 (An p)) (Ao p):=by intros;exact outB):Tr P M w0 n Γ As c Q:=k b
def tJp (C:τ->Prop) (b:∀p,C p->To M w0 n (Γo p) (Ao p) K) (k:(∀p,C p->To M w0 n (Γo p) (Ao p) K)->Tr P M w0 n Γ As c Q) (h:∀p,Out (mixL Γ 64 cg 0 (Gn p)) (Γo p):=by intros;exact outs) (s:∀p,OutA (mixL As 64 ca 0 (An p)) (Ao p):=by intros;exact outB):Tr P M w0 n Γ As c Q:=k b
end
def tJq {Γo:τ->ν->List (Nat×Ty)} {Ao:τ->ν->List Atom} (Gn:τ->ν->List (Nat×Ty)) (cg:Nat) (An:τ->ν->List Atom) (ca:Nat) (K:Act->World->Prop) (C:τ->Prop) (b:∀p v,C p->To M w0 n (Γo p v) (Ao p v) K) (k:(∀p v,C p->To M w0 n (Γo p v) (Ao p v) K)->Tr P M w0 n Γ As c Q) (h:∀p v,Out (mixL Γ 64 cg 0 (Gn p v)) (Γo p v):=by intros;exact outs) (s:∀p v,OutA (mixL As 64 ca 0 (An p v)) (Ao p v):=by intros;exact outB):Tr P M w0 n Γ As c Q:=k b
inductive CJ:(Exit->Act->World->Prop)->(Act->World->Prop)->Prop
  | ret {P:Program} {fn:Func} {M0:Blk} {E:List Atom} {w0:World} {N:Value->List Atom} {T:Value->Ty}:CJ (Ret P fn M0 E w0 N T) (Ret P fn M0 E w0 N T .ret)
  | retM {P:Program} {fn:Func} {M0:Blk} {E:List Atom} {w0:World} {N:Value->List Atom} {T:Value->Ty}:CJ (RetM P fn M0 E w0 N T) (RetM P fn M0 E w0 N T .ret)
  | thn {K K':Act->World->Prop} {Q:Exit->Act->World->Prop} (h:CJ Q K):CJ (Exit.then K' Q) K
  | blk {id:Nat} {K:Act->World->Prop} {Q:Exit->Act->World->Prop} (h:CJ Q K):CJ (Exit.inBlock id Q) K
  | ng {K:Act->World->Prop} {Q:Exit->Act->World->Prop} (h:CJ Q K):CJ (Exit.noGoto Q) K
def retOf {K:Act->World->Prop} {Q:Exit->Act->World->Prop} (h:CJ Q K:=by
  repeat first
    | with_reducible exact CJ.ret
    | with_reducible exact CJ.retM
    | with_reducible apply CJ.thn
    | with_reducible apply CJ.blk
    | with_reducible apply CJ.ng
  fail_if_success apply id):CJ Q K:=h
def tJr {Γo:τ->List (Nat×Ty)} {Ao:τ->List Atom} {K:Act->World->Prop} (Gn:τ->List (Nat×Ty)) (cg:Nat) (An:τ->List Atom) (ca:Nat) (C:τ->Prop) (b:∀p,C p->To M w0 n (Γo p) (Ao p) K) (k:(∀p,C p->To M w0 n (Γo p) (Ao p) K)->Tr P M w0 n Γ As c Q) (h:CJ Q K:=by exact retOf) (s:∀p,Out (mixL Γ 64 cg 0 (Gn p)) (Γo p):=by intros;exact outs) (H:∀p,OutA (mixL As 64 ca 0 (An p)) (Ao p):=by intros;exact outB):Tr P M w0 n Γ As c Q:=k b
def tScope (h:Tr P M w0 n Γ As c (Exit.noGoto Q)):Tr P M w0 n Γ As (.scope c) Q:=λa w H=>wp_scope_straight (h a w H)
def tLabel {l:Nat} (h:To M w0 n Γ As (Q .normal)):Tr P M w0 n Γ As (.label l) Q:=λa w H=>wp_label (h a w H)
def eV (h:Tr P M w0 n Γ As c2 Q):Tr P M w0 n Γ As (.cond (.const (.bool false)) c1 c2) Q:=λa w H=>lN (h a w H)
def Fe {f:FuncId} {b:Func} {c:Code} {T:Value->Ty} (hf:P.funcs[f]?=some b) (s:b.ntmps=n) (h:∀M0 M w,A4 M0 E M->Tr P M w n Γ' E c (Ret P b M0 E w N T)) (hb:b.body=some c:=by rfl) (hl:Ts.length<=n:=by exact Nat.le_of_ble_eq_true rfl) (e:Out (zip [0,1,2,3,4,5,6,7,8,9,10,11,12,13,14,15] Ts) Γ':=by exact outs) (e2:ents Ts=zip [0,1,2,3,4,5,6,7,8,9,10,11,12,13,14,15] Ts:=by rfl):FnOk P f Ts E N T:=
  FnOk.enter hf hb s hl λM0 M w a hp H=>h M0 M w hp a w (by rw[e2,e.eq] at H;exact H)
def FeM {f:FuncId} {b:Func} {c:Code} {T:Value->Ty} (hf:P.funcs[f]?=some b) (s:b.ntmps=n) (h:∀M0 M w,A4 M0 E M->Tr P M w n Γ' E c (RetM P b M0 E w N T)) (hb:b.body=some c:=by rfl) (hl:Ts.length<=n:=by exact Nat.le_of_ble_eq_true rfl) (e:Out (zip [0,1,2,3,4,5,6,7,8,9,10,11,12,13,14,15] Ts) Γ':=by exact outs) (e2:ents Ts=zip [0,1,2,3,4,5,6,7,8,9,10,11,12,13,14,15] Ts:=by rfl):FnOk P f Ts E N T:=
  FnOk.enterM hf hb s hl λM0 M w a hp H=>h M0 M w hp a w (by rw[e2,e.eq] at H;exact H)
def NG {b:Func} {T:Value->Ty} (h:To M w0 n Γ As (Ret P b M0 E w0 N T .ret)):To M w0 n Γ As (RetM P b M0 E w0 N T .ret):=λa w H=>nA (h a w H)
def AG (h:To M w0 n Γ As (Q .ret)):Tr P M w0 n Γ As .ret Q:=λa w H=>wp_ret (h a w H)
section
variable {B0 B1 B2 B3 B4 B5:Atom} {l:List Atom}
def at0:(A::l)[0]?=some A:=rfl
def at1:(B0::A::l)[1]?=some A:=rfl
def at2:(B0::B1::A::l)[2]?=some A:=rfl
def at6:(B0::B1::B2::B3::B4::B5::A::l)[6]?=some A:=rfl
end
def Qp {e:α} (h:some e=some r) (k:e=r->To M w0 n Γ As (Q .ret)):Tr P M w0 n Γ As .ret Q:=AG (k (Zn h))
def resOk {b:List ResultVar} (h:CH P Γ As b Ts:=by
  repeat first
    | exact .nil
    | ((with_reducible apply CH.tmp);exact .a)
    | ((with_reducible apply CH.cell);exact TokI.ok;exact .a;(first | exact at0 | exact at1 | exact at2 | exact at3 | exact at4 | exact at5 | exact at6);exact rfl)
  fail_if_success apply id):CH P Γ As b Ts:=h
def Dc (P:Program) (Γ:List (Nat×Ty)) (As:List Atom) (h:Func) (T:Ty):Prop:=∃b Ts,h.results=b.toArray/\CH P Γ As b Ts/\T=FI Ts
def Dc.one {L:Func} {b:List ResultVar} {s:Ty} (H:L.results=b.toArray) (O:T=s) (h:CH P Γ As b [s]):Dc P Γ As L T:=⟨b,[s],H,h,O⟩
def Dc.tup {H:Func} {b:List ResultVar} (s:H.results=b.toArray) (L:T=ttup Ts) (hl:FI Ts=ttup Ts) (h:CH P Γ As b Ts):Dc P Γ As H T:=⟨b,Ts,s,h,L.trans hl.symm⟩
def rets {b:Func} (h:Dc P Γ As b T:=by
  first
  | (apply Dc.one;exact rfl;exact rfl;exact resOk)
  | (apply Dc.tup;exact rfl;exact rfl;exact rfl;exact resOk)):Dc P Γ As b T:=h
def oEnds {L:Func} {T:Value->Ty} (b:A4 M0 E M) (h:Dc P Γ As L (T undef):=by exact rets) (O:([]:List Atom)=N undef:=by rfl):To M w0 n Γ As (Ret P L M0 E w0 N T .ret):=λa w H=>by
  have⟨X,Ts,s,h,W⟩:=h;exact FE undef [] b H s h rfl O W
def CJ.le {K:Act->World->Prop} {Q:Exit->Act->World->Prop} (h:CJ Q K):∀a w,K a w->Q .ret a w:=by
  induction h with
  | ret=>exact λ_ _ h=>h
  | retM=>exact λ_ _ h=>h
  | thn _ b=>exact b
  | blk _ b=>exact b
  | ng _ b=>exact b
def oRE {x:α} {s:Func} {T:Value->Ty} (h:some x=some r) (b:A4 M0 E M) (H:x=r->Dc P Γ As s (T undef):=by intro e;cases e;exact rets) (L:([]:List Atom)=N undef:=by rfl):To M w0 n Γ As (Ret P s M0 E w0 N T .ret):=oEnds b (H (Zn h)) L
def tRE {x:α} {s:Func} {T:Value->Ty} (h:some x=some r) (b:A4 M0 E M) (L:CJ Q (Ret P s M0 E w0 N T .ret):=by exact retOf) (H:x=r->Dc P Γ As s (T undef):=by intro e;cases e;exact rets) (O:([]:List Atom)=N undef:=by rfl):Tr P M w0 n Γ As .ret Q:=AG λa w W=>L.le a w (oRE h b H O a w W)
def AO {O:Func} {T:Value->Ty} (x:Value) (b:List Nat) (s:A4 M0 E M) (h:Dc P Γ As O (T x):=by exact rets) (W:Bj b=true:=by rfl) (X:b.filterMap (λi=>As[i]?)=N x:=by rfl):To M w0 n Γ As (Ret P O M0 E w0 N T .ret):=λa w H=>by
  have⟨rs,Ts,L,h,Z⟩:=h;exact FE x b s H L h W X Z
def Fo {O:Func} {T:Value->Ty} (x:Value) (b:List Nat) (s:A4 M0 E M) (h:Dc P Γ As O (T x):=by exact rets) (W:Bj b=true:=by rfl) (X:b.filterMap (λi=>As[i]?)=N x:=by rfl):To M w0 n Γ As (Ret P O M0 E w0 N T .normal):=λa w H=>by
  have⟨rs,Ts,L,h,Z⟩:=h;exact UG x b s H L h W X Z
end

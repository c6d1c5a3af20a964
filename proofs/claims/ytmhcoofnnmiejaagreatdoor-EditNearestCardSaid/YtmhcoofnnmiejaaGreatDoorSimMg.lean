/- The logic's part of maps with keys of any kind. No condition. -/
import Derived.Test.YtmhcoofnnmiejaaGreatDoorSimX
import Derived.DeepKeys3
set_option linter.all false
open List
set_option linter.unusedSectionVars false
namespace Go.Sim
variable {α:Type} {T:Ty} {Ts:List Ty} {i:Nat} {new:Nat->Value} {w:World} {N:Value->List Atom} {E:List Atom} {Γ:List (Nat×Ty)} {V:List Ver} {F:Blk} {P:Program} {v:Value} {ps:List (Nat×Operand)} {τ:Type} {R:Rep α} {C:τ->Prop} {j:Nat} {mks:List Nat} {κ:Type} {xs:List α} {ns:List Nat} {M0:Blk} {kt:TypeId} {zt:Value} {dg:Nat} {want:Bool} {Γ':List (Nat×Ty)} {B:Atom} {ops:List Oper} {ν:Type} {σ:Type} {ρ:Type} {body:σ->Option (σ⊕ρ)} {out:ρ} {s0:σ} {pos:String} {af:Array Edge} {U:List Atom} {w0:World} {As:List Atom} {y:Option α} {Γ'':List (Nat×Ty)} {As'':List Atom}
section
open Go.MapKept
class MKey (κ:Type) where
 kv:κ->Value
 good:κ->Prop
 inj:∀a b,kv a=kv b->a=b
structure KLaw (P:Program) (kt:TypeId) (κ:Type) [MKey κ]:Prop where
 check:∀(w:World) (em:Bool) (i:κ),MKey.good i->(Instr.checkKey em 10000 kt (MKey.kv i)).run P w=.ok () w
 find:∀(w:World) (i:κ),MKey.good i->∀es:List MapEntry,(∀e∈es,∃j:κ,MKey.good j/\e.key=MKey.kv j)->((Instr.findKey kt (MKey.kv i) es).run P w=.ok none w/\∀e∈es,e.key≠MKey.kv i)\/∃j e,(Instr.findKey kt (MKey.kv i) es).run P w=.ok (some (j,e.val)) w/\es[j]?=some e/\e.key=MKey.kv i
 stays:∀(w:World) (i:κ),MKey.good i->(Instr.keyThatStays (MKey.kv i) (MKey.kv i)).run P w=.ok (MKey.kv i) w
section
variable {κ α:Type} [DecidableEq κ] [MKey κ]
def Qc5:List (κ×α)->κ->Option α
 | [],_=>none
 | p::l,i=>if i=p.1 then some p.2 else Qc5 l i
def QjI:List (κ×α)->κ->α->List (κ×α)
 | [],i,y=>[(i,y)]
 | p::l,i,y=>if i=p.1 then (i,y)::l else p::QjI l i y
def QdT:∀(l:List (κ×α)) (i:κ) (y:α) (j:κ),Qc5 (QjI l i y) j=if j=i then some y else Qc5 l j
 | [],i,y,j=>by simp[QjI,Qc5]
 | p::l,i,y,j=>by
  unfold QjI;by_cases h:i=p.1
  ·rw[Zc h];unfold Qc5;by_cases b:j=i
   ·rw[Zc b,Zc b]
   ·rw[Zb b,Zb b,Zb (by rw[<-h];exact b)]
  ·rw[Zb h];unfold Qc5;by_cases hp:j=p.1
   ·rw[Zc hp,Zc hp,Zb (by rw[hp];exact λe=>h e.symm)]
   ·rw[Zb hp,Zb hp];exact QdT l i y j
abbrev MpK (κ α:Type):=Option (List (κ×α))
def QbF (m:MpK κ α) (i:κ):Option α:=m.bind λl=>Qc5 l i
def Qlj (m:MpK κ α) (i:κ) (y:α):Option (MpK κ α):=m.map λl=>some (QjI l i y)
structure QkX (R:Rep α) (F:Blk) (w:World) (es:Array MapEntry) (l:List (κ×α)):Prop where
 all:∀e∈es.toList,∃i x,e.key=MKey.kv i/\Qc5 l i=some x/\(R.ty x).ok F w e.val
 gd:∀e∈es.toList,∃j:κ,MKey.good j/\e.key=MKey.kv j
 has:∀i x,Qc5 l i=some x->∃e∈es.toList,e.key=MKey.kv i
 one:∀(n n':Nat) (e e':MapEntry),es.toList[n]?=some e->es.toList[n']?=some e'->e.key=e'.key->n=n'
def QkX.keep {R:Rep α} {F':Blk} {w':World} {b:Array MapEntry} {l:List (κ×α)} (r:∀k,F k->F' k) (s:∀k,F k->w'.heap[k]?=w.heap[k]?) (h:QkX R F w b l):QkX R F' w' b l:=⟨λe H=>let⟨i,x,L,O,W⟩:=h.all e H;⟨i,x,L,O,(R.ty x).keep r s W⟩,h.gd,h.has,h.one⟩
def Qsy (R:Rep α) (F:Blk) (w:World) (m:MpK κ α) (v:Value):Prop:=match m with | none=>v=.map none | some l=>∃b h c,v=.map (some b)/\w.heap[b]?=some (.map h c)/\QkX R F w h l
def QaM (R:Rep α) (m:MpK κ α) (v:Value):Atom:=
 ⟨λk=>v=.map (some k),λF w=>Qsy R F w m v,
  by
   intro F F' w w' s H hf h
   cases m with
   | none=>exact h
   | some l=>obtain⟨b,L,c,r,O,W⟩:=h;exact⟨b,L,c,r,by rw[hf b r];exact O,W.keep s H⟩⟩
def Qao (R:Rep α) (m:MpK κ α):Ty:=
 ⟨λF w v=>match m with | none=>v=.map none | some l=>∃b r c,v=.map (some b)/\F b/\w.heap[b]?=some (.map r c)/\QkX R F w r l,
  by
   intro F F' w w' v s H h
   cases m with
   | none=>exact h
   | some l=>obtain⟨b,r,c,O,L,W,X⟩:=h;exact⟨b,r,c,O,s b L,by rw[H b L];exact W,X.keep s H⟩⟩
def Qnl {R:Rep α} {m:MpK κ α}:One (Qao R m):=λF w v h=>by
 cases m with
 | none=>have:v=.map none:=h;rw[this];rfl
 | some l=>obtain⟨b,s,c,r,_⟩:=h;rw[r];rfl
@[reducible] def rMpK (R : Rep α) : Rep (MpK κ α) := ⟨λm => [Qao R m],1,false,λ_ => rfl,λm T b F w v hv => by simp at b; subst b; exact Qnl F w v hv,λ_ => rfl⟩
end
section
variable {Γ:List (Nat×Ty)} {P:Program} {d:Option Tmp} {ty:TypeId} {pos:String} {af:Array Edge} {g:Option (Nat×Bool)} {x y q:Operand} {t kt et:TypeId} {κ α:Type} [DecidableEq κ] [MKey κ] {R:Rep α} {bytes:Nat} {z:Value} {m:MpK κ α} {v:Value} {i:κ} {u:α}
def Qre (s:MKey.good i) (ht:P.underlying t=some (.map kt et)) (L:KLaw P kt κ) (hz:(zeroValue et).run P w=.ok z w) {x0:α} (O:(R.ty x0).ok F w z) (h:Qsy R F w m v) (ok:Bool):
  ∃r,(Instr.lookup t v (MKey.kv i) ok).run P w=.ok (if ok=true then .tuple #[r,.bool (QbF m i).isSome] else r) w/\(R.ty ((QbF m i).getD x0)).ok F w r:=by
 cases m with
 | none=>
  have hv:v=.map none:=h;subst hv;refine⟨z,?_,O⟩;have H:(Instr.checkKey true 10000 kt (MKey.kv i)).run P w=.ok () w:=L.check w true i s;have hf:(Instr.findKey kt (MKey.kv i) ([]:List MapEntry)).run P w=.ok none w:=by
   rcases L.find w i s [] (λe X=>by cases X) with h | ⟨j,e,_,W,_⟩
   ·exact h.1
   ·simp at W
  cases ok<;>simp[Instr.lookup,run_underlying ht,H,hf,hz,QbF,Result.andThen]
 | some l=>
  obtain⟨b,es,c,hv,hb,hm⟩:=h;subst hv;have H:∀e,(Instr.checkKey e 10000 kt (MKey.kv i)).run P w=.ok () w:=λe=>L.check w e i s;rcases L.find w i s es.toList hm.gd with⟨Z,W⟩ | ⟨j,e,Z,W,h3⟩
  ·have hn:Qc5 l i=none:=by
    cases hg:Qc5 l i with
    | none=>rfl
    | some u=>obtain⟨e,X,L⟩:=hm.has i u hg;exact absurd L (W e X)
   refine⟨z,?_,by show (R.ty ((Qc5 l i).getD x0)).ok F w z;rw[hn];exact O⟩;have e0:QbF (some l) i=none:=hn;cases ok<;>simp[Instr.lookup,run_underlying ht,Go.MapKept.run_getObj_map hb,H,Z,hz,e0,Result.andThen]
  ·obtain⟨i',u,h4,h5,h6⟩:=hm.all e (Zl W);rw[h3] at h4;obtain rfl:=MKey.inj _ _ h4;refine⟨e.val,?_,by show (R.ty ((Qc5 l i).getD x0)).ok F w e.val;rw[h5];exact h6⟩;have e0:QbF (some l) i=some u:=h5;cases ok<;>simp[Instr.lookup,run_underlying ht,Go.MapKept.run_getObj_map hb,H,Z,e0,Result.andThen]
def Qnm {x0:α} (b:MKey.good i) (ht:P.underlying t=some (.map kt et)) (H:KLaw P kt κ) (hz:TOk P et R bytes z) (h:∀F w,(R.ty x0).ok F w z) (hx:Fct Γ x (tv v)) (hi:Fct Γ y (tv (MKey.kv i))):
  OpJ P ⟨d,.lookup t x y false,ty,pos,af,g⟩ Γ [QaM R m v] [] (λ_=>[]) (λ_=>R.ty ((QbF m i).getD x0)):=
 Qb8 λM w a hU s=>by have L:=hx.val (by simp[Op.operands]) s;have O:=hi.val (by simp[Op.operands]) s;obtain⟨r,W,X⟩:=Qre (i:=i) b ht H (QkU hz) (h (free M w) w) (hU _ (Zg.2 rfl)) false;exact⟨r,by simp only[execOp,L,O,Sem.run_bind,W,Zj,Sem.run_pure];rfl,X⟩
def QxB (h:(Qao R m).ok F w v):Qsy R F w m v:=by
 cases m with
 | none=>exact h
 | some l=>obtain⟨b,r,c,s,_,H,L⟩:=h;exact⟨b,r,c,s,H,L⟩
def Qnn {x0:α} (b:MKey.good i) (ht:P.underlying t=some (.map kt et)) (H:KLaw P kt κ) (hz:TOk P et R bytes z) (h:∀F w,(R.ty x0).ok F w z) (hx:Fct Γ x (Qao R m)) (hi:Fct Γ y (tv (MKey.kv i))):
  OpJ P ⟨d,.lookup t x y false,ty,pos,af,g⟩ Γ [] [] (λ_=>[]) (λ_=>R.ty ((QbF m i).getD x0)):=
 QaH λF w a s=>by have L:=hx.use (by simp[Op.operands]) s;have O:=hi.val (by simp[Op.operands]) s;obtain⟨r,W,X⟩:=Qre (i:=i) b ht H (QkU hz) (h F w) (QxB L) false;exact⟨r,by simp only[execOp,O,Sem.run_bind,W,Zj,Sem.run_pure];rfl,X⟩
def Qly (κ:Type) [DecidableEq κ] [MKey κ] (R:Rep α):OpJ P ⟨d,.makeMap t none,ty,pos,af,g⟩ Γ [] [] (λv=>[QaM R (some []:MpK κ α) v]) (λv=>tv v):=by
 intro M w A L _ _ _ _ _;have b:(execOp A.eval (⟨d,.makeMap t none,ty,pos,af,g⟩:Oper)).run P w=.ok (.value (.map (some w.heap.size))) (w.alloc (.map #[] 0)):=rfl;simp only[Does,b];have hb:=(heap_alloc w (.map #[] 0)).1;refine⟨.map (some w.heap.size),(Step.alloc w _).mono (λ_ h=>h.elim),Qbx (λk H=>?_) ?_,rfl⟩
 ·have r:Value.map (some w.heap.size)=.map (some k):=H;simp only[Value.map.injEq,ZM] at r;subst r;exact⟨.inr (Zr _),by simp⟩
 ·exact⟨w.heap.size,#[],0,rfl,hb,⟨λe s=>(by simp at s),λe s=>(by simp at s),λi u h=>(by cases h),λn O e e' h=>(by simp at h)⟩⟩
def Qkn {m':MpK κ α} (X:MKey.good i) (ht:P.underlying t=some (.map kt et)) (hk:KLaw P kt κ) (hx:Fct Γ x (tv v)) (hi:Fct Γ y (tv (MKey.kv i))) (hq:Fct Γ q (R.ty u)) (h:Qlj m i u=some m'):
  OpJ P ⟨d,.mapUpdate t x y q,ty,pos,af,g⟩ Γ [] [QaM R m v] (λ_=>[QaM R m' v]) (λ_=>tany):=by
 intro M w A hM _ hE _ _ L;obtain⟨ho,b5⟩:=hE _ (Zg.2 rfl);have b0:=Qcy hE;have h1:=hx.val (by simp[Op.operands]) L;have h2:=hi.val (by simp[Op.operands]) L;have h3:=hq.use (by simp[Op.operands]) L
 cases m with
 | none=>cases h
 | some l=>
  obtain rfl:some (QjI l i u)=m':=by simpa[Qlj] using h
  obtain⟨b,W,c,hv,hb,hm⟩:=ho;have b6:b<w.heap.size:=(Array.getElem?_eq_some_iff.1 hb).1;have key:∃H c',(Instr.mapUpdate t v (MKey.kv i) (A.eval q)).run P w=.ok () { w with heap:=w.heap.setIfInBounds b (.map H c') }/\QkX R (free M w) w H (QjI l i u):=by
   subst hv;rcases hk.find w i X W.toList hm.gd with⟨f1,f2⟩ | ⟨j,e,f1,f2,f3⟩
   ·refine⟨W.push ⟨(MKey.kv i),A.eval q,c⟩,c+1,by simp[Instr.mapUpdate,run_underlying ht,Go.MapKept.run_getObj_map hb,hk.check w _ i X,f1,Go.MapKept.run_setObj_map _ hb,Result.andThen],⟨λe L=>?_,λe L=>?_,λj y hj=>?_,λn n' e e' r b3 Z=>?_⟩⟩
    ·simp only[Array.toList_push,ZB,Zg] at L;rcases L with L | rfl
     ·obtain⟨k,y,g1,g2,g3⟩:=hm.all e L;refine⟨k,y,g1,?_,g3⟩;rw[QdT,Zb (λe2=>f2 e L (by rw[g1,e2]))];exact g2
     ·exact⟨i,u,rfl,by rw[QdT,Zc rfl],h3⟩
    ·simp only[Array.toList_push,ZB,Zg] at L;rcases L with L | rfl
     ·exact hm.gd e L
     ·exact⟨i,X,rfl⟩
    ·rw[QdT] at hj;by_cases e:j=i
     ·subst e;exact⟨_,by rw[Array.toList_push];exact mem_append_right _ (mem_singleton_self _),rfl⟩
     ·rw[Zb e] at hj;obtain⟨e',a0,b7⟩:=hm.has j y hj;exact⟨e',by rw[Array.toList_push];exact mem_append_left _ a0,b7⟩
    ·rw[Array.toList_push] at r b3;have O:∀(n:Nat) (e:MapEntry),(W.toList++[⟨(MKey.kv i),A.eval q,c⟩])[n]?=some e->W.toList[n]?=some e\/(n=W.toList.length/\e.key=MKey.kv i):=λn e h=>by
      rw[getElem?_append] at h;split at h
      ·exact .inl h
      ·rename_i c3;rw[getElem?_singleton] at h;split at h
       ·exact .inr ⟨by omega,by cases h;rfl⟩
       ·cases h
     rcases O n e r with a | ⟨a1,a2⟩<;>rcases O n' e' b3 with b | ⟨b1,b2⟩
     ·exact hm.one n n' e e' a b Z
     ·exact absurd (Z.trans b2) (f2 e (Zl a))
     ·exact absurd (Z.symm.trans a2) (f2 e' (Zl b))
     ·omega
   ·have hj:W[j]?=some e:=by simpa using f2
    have a3:∀n:Nat,(W.modify j λe=>{ e with key:=MKey.kv i,val:=A.eval q }).toList[n]?=if n=j then some { e with key:=MKey.kv i,val:=A.eval q } else W.toList[n]?:=λn=>by
     rw[Array.getElem?_toList,Array.getElem?_modify];by_cases r:n=j
     ·subst r;rw[Zc rfl,Zc rfl,hj];rfl
     ·rw[Zb (λh=>r h.symm),Zb r,Array.getElem?_toList]
    have kk:∀(n:Nat) (e':MapEntry),(W.modify j λe=>{ e with key:=MKey.kv i,val:=A.eval q }).toList[n]?=some e'->∃e0,W.toList[n]?=some e0/\e0.key=e'.key/\(n=j->e'.val=A.eval q)/\(n≠j->e'=e0):=λn e' h=>by
     rw[a3] at h;by_cases r:n=j
     ·rw[Zc r] at h;cases h;exact⟨e,by rw[r];exact f2,f3,λ_=>rfl,λh=>(h r).elim⟩
     ·rw[Zb r] at h;exact⟨e',h,rfl,λh=>(r h).elim,λ_=>rfl⟩
    refine⟨W.modify j λe=>{ e with key:=MKey.kv i,val:=A.eval q },c,by simp[Instr.mapUpdate,run_underlying ht,Go.MapKept.run_getObj_map hb,hk.check w _ i X,f1,hj,f3,hk.stays w i X,Go.MapKept.run_setObj_map _ hb,Result.andThen],⟨λe' a0=>?_,λe' a0=>?_,λk y a7=>?_,λn n' e1 e2 h1 h2 Z=>?_⟩⟩
    ·obtain⟨n,r⟩:=ZT.1 a0;obtain⟨e0,g1,g2,g3,g4⟩:=kk n e' r;obtain⟨k,y,q1,q2,q3⟩:=hm.all e0 (Zl g1);by_cases s:n=j
     ·have:e0=e:=by rw[s,f2] at g1;exact (Zn g1).symm
      subst this;have c4:k=i:=MKey.inj _ _ (q1.symm.trans f3);exact⟨i,u,by rw[<-g2,f3],by rw[QdT,Zc rfl],by rw[g3 s];exact h3⟩
     ·have hne:k≠i:=λe2=>s (hm.one n j e0 e g1 f2 (by rw[q1,f3,e2]));exact⟨k,y,by rw[<-g2];exact q1,by rw[QdT,Zb hne];exact q2,by rw[g4 s];exact q3⟩
    ·obtain⟨n,r⟩:=ZT.1 a0;obtain⟨e0,g1,g2,_,_⟩:=kk n e' r;obtain⟨q,q1,q2⟩:=hm.gd e0 (Zl g1);exact⟨q,q1,by rw[<-g2];exact q2⟩
    ·have old:∀e0∈W.toList,∃e'∈(W.modify j λe=>{ e with key:=MKey.kv i,val:=A.eval q }).toList,e'.key=e0.key:=λe0 a8=>by
      obtain⟨n,r⟩:=ZT.1 a8;by_cases s:n=j
      ·have:e0=e:=by rw[s,f2] at r;exact (Zn r).symm
       subst this;exact⟨_,Zl (by rw[a3,Zc s]),f3.symm⟩
      ·exact⟨e0,Zl (i:=n) (by rw[a3,Zb s];exact r),rfl⟩
     rw[QdT] at a7;by_cases e2:k=i
     ·subst e2;obtain⟨e',g1,g2⟩:=old e (Zl f2);exact⟨e',g1,by rw[g2];exact f3⟩
     ·rw[Zb e2] at a7;obtain⟨e0,a8,b8⟩:=hm.has k y a7;obtain⟨e',g1,g2⟩:=old e0 a8;exact⟨e',g1,by rw[g2];exact b8⟩
    ·obtain⟨a1,b1,c1,_⟩:=kk n e1 h1;obtain⟨a2,b2,c2,_⟩:=kk n' e2 h2;exact hm.one n n' a1 a2 b1 b2 (by rw[c1,c2];exact Z)
  obtain⟨H,c',b4,b9⟩:=key;have a9:(execOp A.eval (⟨d,.mapUpdate t x y q,ty,pos,af,g⟩:Oper)).run P w=.ok .skip { w with heap:=w.heap.setIfInBounds b (.map H c') }:=by simp only[execOp,h1,h2,Sem.run_bind,b4,Zj,Sem.run_pure]
  simp only[Does,a9];have a4:=heap_set (o':=.map H c') hb;have a5:Step (QaP [QaM R (some l) v]) w { w with heap:=w.heap.setIfInBounds b (.map H c') }:=⟨rfl,rfl,rfl,by simp,λk _ c0=>a4.2 k (λe=>c0 (Qac.2 (by rw[e];exact hv)))⟩;refine⟨undef,a5,Qbx (λk hk=>?_) ?_,trivial⟩
  ·have a6:v=.map (some k):=hk;refine⟨.inl (Qac.2 a6),?_⟩;rw[hv] at a6;simp only[Value.map.injEq,ZM] at a6;subst a6;simpa using b6
  ·refine⟨b,H,c',hv,a4.1,?_⟩;refine QkX.keep (λk hk=>?_) (λk hk=>a4.2 k (λe=>?_)) b9
   ·refine Qb1 a5.size b0 (λB hB j hj=>?_) hk;obtain rfl:=Zg.1 hB;exact .inl (Qac.2 hj)
   ·exact hk.2 (b5 b hv |> λh=>by rw[e];exact h)
def Qwb {r:MpK κ α} (b:MKey.good i) (ht:P.underlying t=some (.map kt et)) (s:KLaw P kt κ) (hx:Fct Γ x (tv v)) (hi:Fct Γ y (tv (MKey.kv i))) (H:Fct Γ q (R.ty u)) (h:Qlj m i u=some r):
  OpJ P ⟨d,.insert t x y q,ty,pos,af,g⟩ Γ [] [QaM R m v] (λ_=>[QaM R r v]) (λ_=>tany):=
 λM w A a1 a2 a3 a4 a5 a6=>Qkn (d:=d) (ty:=ty) (pos:=pos) (af:=af) (g:=g) b ht s hx hi H h M w A a1 a2 a3 a4 a5 a6
def Qwc {F':Blk} (h:(QaM R m v).ok F w) (H:∀k,F k->F' k) (r:∀k,(QaM R m v).fp k->F' k):(Qao R m).ok F' w v:=by
 cases m with
 | none=>exact h
 | some l=>obtain⟨b,L,c,s,O,W⟩:=h;exact⟨b,L,c,s,r b s,O,W.keep H (λ_ _=>rfl)⟩
end
section
variable {M:Fr} {w0 w:World} {n:Nat} {Γ:List (Nat×Ty)} {As:List Atom} {a:Act} {κ α:Type} [DecidableEq κ] [MKey κ] {R:Rep α} {m:MpK κ α} {v:Value}
end
instance :MKey Str:=⟨λi=>.string (sB i),λ_=>True,λa b h=>by simpa[sB_inj] using h⟩
instance :MKey Int:=⟨λi=>.int .i64 i,λ_=>True,λa b h=>by simpa using h⟩
def QC5 [MKey κ] {D:TypeDesc} (s:P.underlying kt=some D) (b:∀i:κ,IsKey D (MKey.kv i)):KLaw P kt κ where
 check:=λw em i _=>Go.MapKept.run_checkKey s (b i) em 9999
 find:=λw i _ H h=>by
  have r:∀e∈H,IsKey D e.key:=λe L=>by obtain⟨j,_,O⟩:=h e L;rw[O];exact b j
  rcases findNow_spec (b i) H 0 r with⟨f1,f2⟩ | ⟨j,e,f1,f2,f3⟩
  ·exact .inl ⟨Go.MapKept.run_findKey s f1,f2⟩
  ·exact .inr ⟨j,e,by rw[Nat.zero_add] at f1;exact Go.MapKept.run_findKey s f1,f2,f3⟩
 stays:=λw i _=>run_keyThatStays (b i)
def Qiy (b:P.underlying kt=some .string):KLaw P kt Str:=QC5 b (λi=>by simp[MKey.kv,IsKey])
def QxC [MKey κ] (K:WideMaps.KeyLaw P kt) (r:∀i:κ,MKey.good i->∃l,keyOf P kt (MKey.kv i)=some l):KLaw P kt κ where
 check:=λw em i h=>by obtain⟨l,hl⟩:=r i h;exact K.check w em hl
 find:=λw i h s b=>by obtain⟨l,hl⟩:=r i h;exact K.find w hl s (λe H=>by obtain⟨j,L,e1⟩:=b e H;rw[e1];exact r j L)
 stays:=λw i h=>by obtain⟨l,hl⟩:=r i h;exact K.stays w hl
end
section
variable {P:Program} {M:Fr} {M0:Blk} {w0:World} {n:Nat} {Γ:List (Nat×Ty)} {As:List Atom} {a:Act} {w:World}
def YOk2 (P:Program) (l:Nat) (E:List Atom) (v:Value) (T:Ty) (b:Bool) (N:Value->List Atom):Prop:=∀(M:Blk) (w:World) (u:Value),(∀k,M k->k<w.heap.size)->Qgn M E w->QcR E->T.ok (free M w) w u->∃h tmps assign body,(Instr.yield l #[v,u]).run P w=.ok (.round l h tmps assign body) w/\RoundIn Fence.wide 0 P l h tmps assign body w (RB E M b N w)
def YOk2.join {l:Nat} {b:Bool} (h:YOk2 P l E v T b N):YOk2 P l [QbG E] v T b (λx=>[QbG (N x)]):=λM w u r s _ hu=>by obtain⟨H,L⟩:=QmZ s;obtain⟨O,tmps,W,body,X,Z⟩:=h M w u r H L hu;exact⟨O,tmps,W,body,X,RoundIn.mono Z (λe w' ⟨x,he,hs,hm⟩=>⟨x,he,by rw[Qix];exact hs,Qrb hm⟩)⟩
def Qwd {d:Option Tmp} {ty:TypeId} {g:Option (Nat×Bool)} {f x y:Operand} {b:Bool} {l:Nat} {ts:Array TypeId} (hf:Fct Γ f (tv (.func (.yield l) #[] #[]))) (hx:Fct Γ x (tv v)) (hy:Fct Γ y T) (W:YOk2 P l E v T b N):OpJ P ⟨d,.call { callee:=.value f,args:=#[x,y],argTypes:=ts },ty,pos,af,g⟩ Γ [] E N (λ_=>tv (.bool b)):=by
 intro M w a X _ Z s _ h;have H:=hf.val (by simp[Op.operands,Call.operands]) h;have L:=hx.val (by simp[Op.operands,Call.operands]) h;have O:=hy (free M w) w a (λp hp e=>h p hp (by simp[Op.operands,Call.operands,e]));obtain⟨fn,tmps,as,body,r,hR⟩:=W M w _ X Z s O;have hr:(execOp a.eval (⟨d,.call { callee:=.value f,args:=#[x,y],argTypes:=ts },ty,pos,af,g⟩:Oper)).run P w=.ok (.round l fn tmps as body) w:=by simp only[execOp,resolve,Deferred.ofValue,H,map_toArray,Yn,Yv,L,Sem.run_bind,Sem.run_pure,Zj,invoke];simpa using r
 simp only[Does,hr];refine RoundIn.mono hR ?_;rintro e w' ⟨x,h,h1,h2⟩;exact⟨_,h,x,h1,h2,rfl⟩
def QC6 {l:Nat} {s:FuncId} {tmps:Array Value} {p q:Tmp} {assign body:Code} {D:Nat} {b:Bool} {Γ:List (Nat×Ty)} (O:tmps.size=n) (hp:p<n) (hq:q<n) (W:p≠q) (hne:(Γ.all λz=>z.1 !=p&&z.1 !=q)=true) (h:∀M0 M w a,Qcz M0 (QeC l (QcJ s tmps #[p,q] assign body D) Γ::E) M->St M w n ((p,tv v)::(q,T)::Γ) (QeC l (QcJ s tmps #[p,q] assign body D) Γ::E) a w->assign.wpIn (Fence.wide.inRound l) 0 P (Exit.then (λH L=>∃r,(Instr.beginRound l).run P L=.ok () r/\body.wpIn (Fence.wide.inRound l) 0 P (roundPost P l (RB (QeC l (QcJ s tmps #[p,q] assign body D) Γ::E) M0 b N w)) H r) (λ_ _ _=>False)) a w):
  YOk2 P l (QeC l (QcJ s tmps #[p,q] assign body D) Γ::E) v T b N:=by
 intro M0 w u hM hE X hu;have hl:=(hE _ (Zq ..)).1;refine⟨s,(tmps.setIfInBounds p v).setIfInBounds q u,assign,body,?_,?_⟩
 ·have:=run_yield (P:=P) (args:=#[v,u]) hl.1 rfl;simpa[QcJ] using this
 ·obtain⟨M,Z,a0⟩:=Qsq (a:={ tmps:=(tmps.setIfInBounds p v).setIfInBounds q u,defers:=[] }) (n:=n) (Γ:=(p,tv v)::(q,T)::Γ) hM hE X (by simpa using O) rfl (λz hz=>by
   rcases Zp.1 hz with rfl | hz
   ·show ((tmps.setIfInBounds p v).setIfInBounds q u).getD p undef=v;rw[Array.getD_eq_getD_getElem?,Array.getElem?_setIfInBounds_ne (Ne.symm W)];simp[O,hp]
   ·rcases Zp.1 hz with rfl | hz
    ·have e:((tmps.setIfInBounds p v).setIfInBounds q u).getD q undef=u:=by simp[O,hq]
     show T.ok _ _ (((tmps.setIfInBounds p v).setIfInBounds q u).getD q undef);rw[e];exact hu
    ·have h1:=hl.2 z hz;have h2:=ZD.1 hne z hz;simp only[Zi,bne_iff_ne,ne_eq] at h2;have e:get { tmps:=(tmps.setIfInBounds p v).setIfInBounds q u,defers:=[] } z.1=tmps.getD z.1 undef:=by
      simp[get,Array.getElem?_setIfInBounds_ne (Ne.symm h2.1),Array.getElem?_setIfInBounds_ne (Ne.symm h2.2)]
     rw[e];exact h1)
  exact roundIn_of_wpIn trivial (h M0 M w _ Z a0)
def QuJ (P:Program) (n:Nat) (Γ:List (Nat×Ty)) {S ι:Type} (A:S->Value->List Atom) (va:ι->Value) (vb:ι->Ty) (p q:Tmp) (assign body:Code) (jx:Exit) (Y:S->ι->Option (S⊕S)):Prop:=
 ∀s g i r,Y s i=some r->∀(M0:Blk) (M:Fr) (w0:World) (a:Act) (l:Nat) (LR h:Atom) (K:Act->World->Prop) (Q:Exit->Act->World->Prop),(∀F w,h.ok F w->∃r,w.heap[l]?=some (.loop r))->
  Qcz M0 (LR::A s g) M->St M w0 n ((p,tv (va i))::(q,vb i)::Γ) (LR::A s g) a w0->
  (∀Γ' As a w,St M w0 n Γ' (LR::As) a w->(∀w,St M w0 n Γ' (h::As) a w->body.wpIn (Fence.wide.inRound l) 0 P Q a w)->K a w)->
  (∀b x Γ' is As a w,r=.inl b->St M w0 n Γ' (h::As) a w->Qcb is=true->(∀L,is.filterMap (λi=>(L::As)[i]?)=L::A b x)->Q .normal a w)->
  (∀b x Γ' is As a w,r=.inr b->St M w0 n Γ' (h::As) a w->Qcb is=true->(∀L,is.filterMap (λi=>(L::As)[i]?)=L::A b x)->Q jx a w)->
  assign.wpIn (Fence.wide.inRound l) 0 P (Exit.then K (λ_ _ _=>False)) a w0
def Qsz (P:Program) (f1:FuncId) (Tc:List Ty) {S ι:Type} (va:ι->Value) (vb:ι->Ty) (Y:S->ι->Option (S⊕S)) (s0:S) (t:S⊕S):Prop:=∀(l:Nat) (W:S⊕S->Value->Atom) (g0:Value),(∀s g i r,Y s i=some r->YOk2 P l [W (.inl s) g] (va i) (vb i) r.isLeft (λx=>[W r x]))->∃T,FnOk P f1 (tv (.func (.yield l) #[] #[])::Tc) [W (.inl s0) g0] (λx=>[W t x]) T
section
variable {S ι:Type} {A:S->Value->List Atom} {va:ι->Value} {vb:ι->Ty} {p q:Tmp} {assign body:Code} {jump:Code} {jx:Exit} {Y:S->ι->Option (S⊕S)} {s0:S} {g0:Value} {t:S⊕S} {f1:FuncId} {Tc:List Ty} {g:Operand}
def Qt9 {fn:FuncId} {D l:Nat} {ex:List Atom} {O:Array Value} (a3:a.tmps=O) (hj:QpD jump jx) (H:St M w0 n Γ ((QeC l (QcJ fn O #[p,q] assign body D) Γ::A s0 g0)++ex) a w)
  (hg:Fct Γ g (Qbu f1 Tc)) (a0:Qsz P f1 Tc va vb Y s0 t) (hp:p<n) (hq:q<n) (a4:p≠q) (hne:(Γ.all λz=>z.1 !=p&&z.1 !=q)=true) (W:QuJ P n Γ A va vb p q assign body jx Y):
  ∃caps:List Value,a.eval g=.func (.func f1) #[] caps.toArray/\CallsIn Fence.wide 0 P f1 (#[.func (.yield l) #[] #[]]++caps.toArray) w (λe w'=>∃v x,e=.returned v/\St M w0 n Γ (recW A l (QcJ fn O #[p,q] assign body D) jump Γ t x++ex) a w'):=by
 obtain⟨caps,a5,a1⟩:=hg _ _ a (λp hp _=>H.Xp p hp);refine⟨caps,a5,callsIn_wide.2 ?_⟩;obtain⟨T,L⟩:=a0 l (λr x=>QbG (recW A l (QcJ fn O #[p,q] assign body D) jump Γ r x)) g0 (λs g i r hY=>by
  refine (QC6 (Γ:=Γ) (b:=r.isLeft) (N:=λx=>recW A l (QcJ fn O #[p,q] assign body D) jump Γ r x) (a3▸H.size) hp hq a4 hne (λM0 M w a X a2=>?_)).join;refine W s g i r hY M0 M w a l _ (QeC l { QcJ fn O #[p,q] assign body D with state:=.busy } Γ) _ _ (λF w h=>⟨_,h.1⟩) X a2 (λΓ' As a w1 h1 h2=>Qt7 h1 rfl h2) ?_ ?_
  ·rintro s' x Γ' is As a w1 rfl h1 hd hN;exact Qv6 x is X h1 hd (hN _)
  ·rintro s' x Γ' is As a w1 rfl h1 hd hN;exact Qt8 hj x is X h1 hd (hN _))
 have L:=(FnOk.unjoin L) (hold M.m ((QeC l (QcJ fn O #[p,q] assign body D) Γ::A s0 g0)++ex)) w (.func (.yield l) #[] #[]::caps) ?_ ?_ ?_ ?_
 ·refine Calls.mono (by simpa using L) ?_;rintro e w' ⟨x,v,rfl,hs,hm,_⟩;exact⟨v,x,rfl,H.called hs hm⟩
 ·intro k Z;rcases Z with Z | ⟨A,hA,Z⟩
  ·exact ZL (H.m0 k Z).1 H.grow.size
  ·exact (H.fresh A hA k Z).2
 ·intro A hA;exact⟨H.own A (mem_append_left _ hA),λk Z=>.inr ⟨A,mem_append_left _ hA,Z⟩⟩
 ·exact (pairwise_append.1 H.apart).1
 ·exact .cons rfl a1
def Qwe {Q:Exit->Act->World->Prop} (hj:QpD jump jx) (a4:St M w0 n Γ (A s0 g0) a w) (hg:Fct Γ g (Qbu f1 Tc)) (hc:Qj P f1) (a2:Qsz P f1 Tc va vb Y s0 t) (hp:p<n) (hq:q<n) (a5:p≠q) (hne:(Γ.all λz=>z.1 !=p&&z.1 !=q)=true)
  (X:QuJ P n Γ A va vb p q assign body jx Y)
  (hQ:∀s x D a' w' b,t=.inl s->(∀M0 E,Qcz M0 E M->QlX M0 E D b)->St b w0 n Γ (objA D defO::A s x) a' w'->Q .normal a' w')
  (hX:∀s x D a' w' b,t=.inr s->(∀M0 E,Qcz M0 E M->QlX M0 E D b)->St b w0 n Γ (objA D defO::A s x) a' w'->Q jx a' w'):(Code.rangeFunc g #[p,q] assign body).wp P Q a w:=by
 refine (wpIn_wide (n:=0)).1 (wpIn_rangeFunc λr _=>?_);have h1:=a4.lay defO;have h2:St M w0 n Γ (QeC (w.alloc defO).heap.size (QcJ r a.tmps #[p,q] assign body w.heap.size) Γ::objA w.heap.size defO::A s0 g0) a ((w.alloc defO).alloc (.loop (QcJ r a.tmps #[p,q] assign body w.heap.size))):=h1.layA (.loop (QcJ r a.tmps #[p,q] assign body w.heap.size)) (λ_=>Iff.rfl) (λF w' hF hh h=>⟨h,λp hp=>p.2.keep hF (λk hk=>hh k hk.1) (h1.Xp p hp)⟩);rw[World.size_alloc] at h2;obtain⟨b0,a6,a7,a8⟩:=hc;have h3:=h2.perm (Bs:=(QeC (w.heap.size+1) (QcJ r a.tmps #[p,q] assign body w.heap.size) Γ::A s0 g0)++[objA w.heap.size defO]) (by refine Perm.cons _ ?_;exact (perm_append_comm (l₁:=[objA w.heap.size defO]) (l₂:=A s0 g0)));have hW:∃W,(w.alloc defO).alloc (.loop (QcJ r a.tmps #[p,q] assign body w.heap.size))=W:=⟨_,rfl⟩;obtain⟨W,hW⟩:=hW;have Z:=run_enterLoop_outer (P:=P) (w:=w) r a.tmps #[p,q] assign body
 change _=Result.ok _ ((w.alloc defO).alloc (.loop (QcJ r a.tmps #[p,q] assign body w.heap.size))) at Z
 rw[hW] at h2 h3 Z;obtain⟨caps,a9,H⟩:=Qt9 (jump:=jump) rfl hj h3 hg a2 hp hq a5 hne X;refine⟨w.heap.size+1,[mark w.heap.size],W,{ target:=.fn (.func f1) caps.toArray,args:=#[.func (.yield (w.heap.size+1)) #[] #[]] },W,f1,#[.func (.yield (w.heap.size+1)) #[] #[]]++caps.toArray,W,Z,?_,λ_ _=>trivial,?_,λhh=>(by cases hh),?_⟩
 ·simp[resolve,Deferred.ofValue,a9];rfl
 ·simp only[invoke,callFunc,Sem.run_bind,Sem.run_pure,run_program,Zj,a6,a7,a8,Yk,if_false]
 ·refine callsIn_wide.2 (Calls.mono (callsIn_wide.1 H) ?_);rintro e w' ⟨v,x,rfl,h4⟩;have a3:∀(As:List Atom) (a0:World),St M w0 n Γ (As++[objA w.heap.size defO]) a a0->∃b,(∀M0 E,Qcz M0 E M->QlX M0 E w.heap.size b)/\St b w0 n Γ (objA w.heap.size defO::As) { a with defers:=[mark w.heap.size]++a.defers } a0:=λAs a0 h5=>by
   have O:=h5.perm (Bs:=objA w.heap.size defO::As) (perm_append_comm (l₁:=As) (l₂:=[objA w.heap.size defO]));exact⟨⟨M.m,M.b,[mark w.heap.size]++M.d⟩,λM0 E L=>⟨L.b,L.m,L.d,by simp[L.e]⟩,⟨O.size,by simp[O.defers],O.grow,O.m0,O.own,O.fresh,O.apart,O.Xp⟩⟩
  cases t with
  | inl s=>refine⟨none,_,run_endLoop (h4.own _ (Zq ..)).1 (by simp[QcJ]),?_⟩;obtain⟨b,a1,h5⟩:=a3 (A s x) _ ((h4.putL { QcJ r a.tmps #[p,q] assign body w.heap.size with state:=.exhausted } rfl).sub (sublist_cons_self ..));exact hQ s x _ _ _ b rfl a1 h5
  | inr s=>
   refine⟨some jump,_,run_endLoop (h4.own _ (Zq ..)).1 (by simp),?_⟩;obtain⟨b,a1,h5⟩:=a3 (A s x) _ ((h4.putL { QcJ r a.tmps #[p,q] assign body w.heap.size with state:=.exhausted,pending:=some jump } rfl).sub (sublist_cons_self ..));have:=hX s x _ _ _ b rfl a1 h5
   cases hj with
   | ret=>exact wpIn_ret this
   | exit id=>exact wpIn_exit this
end
end
def QW.drop {us:List Value} (h:QW Ts F w us) (n:Nat):QW (Ts.drop n) F w (us.drop n):=⟨by rw[Yh,Yh,h.1],λj T u b hu=>by rw[getElem?_drop] at b hu;exact h.2 _ T u b hu⟩
section
variable {α:Type} {R:Rep α}
variable {Γ:List (Nat×Ty)} {P:Program} {d:Option Tmp} {ty:TypeId} {pos:String} {af:Array Edge} {g:Option (Nat×Bool)} {x y:Operand} {t e:TypeId} {bytes:Nat} {z:Value} {v:Value}
end
section
variable {P:Program} {d:Option Tmp} {ty t:TypeId} {pos:String} {af:Array Edge} {g:Option (Nat×Bool)} {Γ:List (Nat×Ty)} {x y:Operand} {z:Value}
end
def cnt (n i:Nat):Option (Nat⊕Unit):=if i<n then some (.inl (i+1)) else some (.inr ())
structure Done (n i:Nat) (Q:Value->Prop) (z h:Value) (g:Value):Prop where
 hdr:dh g=h
 agg:isFz g=false
 upto:∀j,j<i->Q (ds g j)
 rest:∀j,i<=j->j<n->ds g j=z
def Fct.hd {x:Operand} {b:Value} (e:b=v) (h:Fct Γ x (tv v)):Fct Γ x (tv b):=e▸h
section
variable {M:Fr} {w0:World} {n:Nat} {Γ:List (Nat×Ty)} {As:List Atom} {a:Act} {w:World} {α:Type} {D:DRep α} {e:TypeId} {xs:List α} {g:Value} {A:Atom}
end
section
variable {α:Type} {D:DRep α} {e:TypeId} {xs:List α} {g hv:Value} {o:Option Nat} {i:Int} {u:α}
end
section
variable {Γ:List (Nat×Ty)} {P:Program} {d:Option Tmp} {ty:TypeId} {pos:String} {af:Array Edge} {g:Option (Nat×Bool)} {x y:Operand} {t e:TypeId} {α:Type} {R:Rep α} {bytes:Nat} {z:Value}
def Qwf {xs L:List α} {q:Value} (ht:P.underlying t=some (.slice e)) (hz:TOk P e R bytes z) (hb:bytes<=2048) (hx:Fct Γ x (tv v)) (hy:Fct Γ y (tv q)) (h:rm (xs.length+L.length)=some ()):
  OpJ P ⟨d,.call { callee:=.builtin .append,args:=#[x,y],argTypes:=#[t,t] },ty,pos,af,g⟩ Γ [own R e L q] [own R e xs v] (λX=>[own R e (xs++L) X]) (λX=>tv X):=by
 intro M w A hM hU hE _ _ he;obtain⟨ho,a3⟩:=hE _ (Zg.2 rfl);obtain⟨Z,_⟩:=hU _ (Zg.2 rfl);have a0:=Qcy hE;have h1:=hx.val (by simp[Op.operands,Call.operands]) he;have a1:=hy.val (by simp[Op.operands,Call.operands]) he;obtain⟨ad,cap,h2,hr⟩:∃ad cap,q=.slice ad L.length cap/\(L≠[]->∃b off,ad=some ⟨b,off,none⟩/\Row (L.flatMap R.cs) (free M w) w b off):=by
  rcases QbB Z with⟨O,hx⟩ | ⟨b,cap,cur,O,hb,g1,g2,g3,g4⟩
  ·subst hx;exact⟨none,0,O,λh=>(h rfl).elim⟩
  ·refine⟨_,cap,O,λ_=>⟨b,0,rfl,λj T hT=>?_⟩⟩;have hj:j<(cur.toList.take (L.length * R.n)).length:=by rw[g4.1];exact (Ze.1 hT).1
   refine⟨(cur.toList.take (L.length * R.n))[j],?_,g4.2 j T _ hT (Zd hj)⟩;have a4:j<cur.size:=by simp at hj;omega
   simp[World.cell?,hb,a4]
 rw[h2] at a1;obtain⟨X,w',a2,r,s,a5⟩:=Qmi (ty:=ty) (c:=cap) (F:=free M w) (F':=λk=>k<w.heap.size/\¬M k) ht hz hb ho (λk H=>⟨H.1,λhf=>H.2 (a3 k hf)⟩) (λk H=>H) hr h;have W:(execOp A.eval (⟨d,.call { callee:=.builtin .append,args:=#[x,y],argTypes:=#[t,t] },ty,pos,af,g⟩:Oper)).run P w=.ok (.value X) w':=by simp only[execOp,resolve,invoke,builtin,Sem.run_bind,Sem.run_pure,Zj,map_toArray,Yn,Yv,h1,a1,a2]
 simp only[Does,W];refine⟨X,r.mono (λk H=>Qac.2 H),Qbx (λk H=>⟨(s k H).1.imp Qac.2 id,(s k H).2⟩) ?_,rfl⟩;refine Atom.keep _ (λk H=>?_) (λ_ _=>rfl) (λ_ _=>rfl) a5;refine Qb1 r.size a0 (λB hB j hj=>?_) H;obtain rfl:=Zg.1 hB;exact (s j hj).1.imp Qac.2 id
end
def neL (xs:List α):Option Unit:=if xs.isEmpty then none else some ()
def Fct.toN {x:Operand} {u:Unit} (h:Fct Γ x (tsl R xs)) (b:neL xs=some u):Fct Γ x (tsn R xs):=λF w a h0=>⟨h F w a h0,λe=>by subst e;cases b⟩
def QbY.boxPD {x:Operand} {e:TypeId} {D:DRep α} {g q:Value} (k:Nat) (h:Fct Γ x (tv q)) (hU:Sim.box Ts q∈U) (W:Sim.deep D e xs g∈U) (hk:Ts[k]?=some (tvs (dh g))):QbY Γ U x (tptr (Ts.set k (tsl D.S xs))):=by
 intro F F' w a X hA h0;have hv:a.eval x=q:=h F w a h0;obtain⟨s,H⟩:=hA _ hU;rw[hv];obtain⟨b,off,e1,e2,Z⟩:=QkO s X H;refine⟨b,off,e1,e2,λj T r=>?_⟩;rw[getElem?_set] at r;split at r
 ·rename_i ej;subst ej;split at r
  ·cases r;obtain⟨u,hu,L⟩:=Z k (tvs (dh g)) hk;have O:u=dh g:=L.1;subst O;exact⟨_,hu,QoY X (hA _ W).1 (hA _ W).2⟩
  ·cases r
 ·exact Z j T r
section
variable {Γ:List (Nat×Ty)} {P:Program} {d:Option Tmp} {ty:TypeId} {pos:String} {af:Array Edge} {g:Option (Nat×Bool)} {t e:TypeId} {α:Type} {R:Rep α} {bytes:Nat} {z:Value}
def QsA {n:Nat} {ps:Array (Nat×Operand)} {us us2:List α} (hu:P.underlying t=some (.array n e)) (s:TOk P e R bytes z) (hz:(P.info? t).bind (·.zero)=some zt) (H:zt.cells.size=(us.length+us2.length) * R.n) (h0:∀F w,QW (us2.flatMap R.cs) F w (zt.cells.toList.drop (us.length * R.n))) (hps:Qdo Γ R 0 ps.toList us):
  OpJ P ⟨d,.build t ps,ty,pos,af,g⟩ Γ [] [] (λ_=>[]) (λ_=>tagg ((us++us2).flatMap R.cs)):=
 QaH λF w A he=>by
  obtain⟨ti,L,_,hs,_⟩:=s.info;obtain⟨vs,hc,_,b,hf,O⟩:=Qmh (F:=F) (w:=w) (A:=A) hps (λp hp ⟨q,hq,e⟩=>he p hp (by simp only[Op.operands,mem_toArray,ZP];exact⟨q,hq,e.symm⟩)) zt.cells (by rw[H,Nat.zero_add,Nat.add_mul];omega);have W:vs.length=us.length * R.n:=by rw[hc.1,QaD]
  have r:b.toList=vs++zt.cells.toList.drop (us.length * R.n):=by rw[O];simp[splice,W]
  obtain⟨tj,X,Z⟩:∃ti,P.info? t=some ti/\ti.zero=some zt:=by
   cases h:P.info? t with
   | none=>simp[h] at hz
   | some ti=>exact⟨ti,rfl,by simpa[h] using hz⟩
  refine⟨.agg b,?_,b.toList,by simp,by rw[r,ZK];exact hc.append (h0 F w)⟩;have a0:(zeroValue t).run P w=.ok zt w:=by simp[zeroValue,typeInfo,X,Z]
  have a1:(sizeOf e).run P w=.ok R.n w:=by simp[sizeOf,typeInfo,L,hs]
  have a2:Instr.fill (λi=>some (i * R.n,R.n)) zt.cells (ps.map λp=>(p.1,A.eval p.2)).toList=some b:=by simpa using hf
  simp only[execOp,Instr.build,Sem.run_bind,a0,Zj,run_underlying hu,a1,a2,Sem.run_pure]
end
def Qno {t:TypeId} (hu:P.underlying t=some (.int .i64)) (n:Nat) {a:Int} (h:-9223372036854775808<=a/\a<=9223372036854775807):P.keyLits (n+1) t [.int .i64 a]=some [.int .i64 a]:=by
 have b:(Lit.int .i64 a).wf=true:=by unfold Lit.wf;simp[IntKind.min,IntKind.max,IntKind.bits,IntKind.signed]<;>omega
 simp[Program.keyLits,hu,b]
def QGk:∀{l:List Int} {us:List Value},QW (l.map λn=>ti n) F w us->us=l.map λn=>.int .i64 n
 | [],us,h=>h.inv0
 | a::l,us,h=>by obtain⟨u,vs,rfl,b,r⟩:=QW.inv h;rw[QGk r,show u=.int .i64 a from b];rfl
def Fct.ints {x:Operand} (l:List Int) (h:Fct Γ x (tagg (l.map λn=>ti n))):Fct Γ x (tv (.agg (l.map λn=>Value.int .i64 n).toArray)):=λF w a h0=>by obtain⟨us,e,b⟩:=h F w a h0;rw[QGk b] at e;exact e
def emp:Atom:=⟨λ_=>False,λ_ _=>True,λ_ _ _ _=>trivial⟩
def optA (b:Bool) (A:Atom):Atom:=match b with | true=>A | false=>emp
def St.emp {M:Fr} {n:Nat} {a:Act} (h:St M w0 n Γ As a w):St M w0 n Γ (Sim.emp::As) a w:=St.reA (A:=Sim.own rI 3 ([]:List Int) (.slice none 0 0)) (B:=Sim.emp) (by funext k;exact propext ⟨λh=>h.elim,λh=>(by cases h)⟩) (λ_ _ _=>trivial) (h.nil rI 3)
def Qrf [DecidableEq κ] [MKey κ] {m:MpK κ α} (h:(QaM R m v).ok F w):v.oneCell'=true:=by
 cases m with
 | none=>have h:v=.map none:=h;rw[h];rfl
 | some l=>obtain⟨b,s,c,r,_⟩:=h;rw[r];rfl
section
variable {M:Fr} {w0 w:World} {n:Nat} {Γ:List (Nat×Ty)} {As:List Atom} {a:Act}
def St.shareCMK [DecidableEq κ] [MKey κ] {m:MpK κ α} {q:Value} (k:Nat) (h:St M w0 n Γ (QaM R m v::box Ts q::As) a w) (hk:Ts[k]?=some (tvs v)):St M w0 n Γ (box (Ts.set k (Qao R m)) q::As) a w:=by
 have hf:∀j,fps (box (Ts.set k (Qao R m)) q::As) j->fps (QaM R m v::box Ts q::As) j:=by
  rintro j ⟨A,hA,s⟩;rcases Zp.1 hA with rfl | hA
  ·exact⟨box Ts q,by simp,s⟩
  ·exact⟨A,by simp[hA],s⟩
 have r:∀j,free (hold M.m (QaM R m v::box Ts q::As)) w j->free (hold M.m (box (Ts.set k (Qao R m)) q::As)) w j:=λj s=>⟨s.1,λhm=>s.2 (hm.imp id (hf j))⟩;have L:=h.own (QaM R m v) (by simp);have O:=h.own (box Ts q) (by simp);have H:=pairwise_cons.1 h.apart;have a0:∀j,(QaM R m v).fp j->free (hold M.m (box (Ts.set k (Qao R m)) q::As)) w j:=by
  intro j s;have W:=h.fresh _ (Zq) j s;refine⟨W.2,?_⟩;rintro (hm | ⟨A,hA,X⟩)
  ·have:=h.m0 j hm;rcases W.1 with hb | hb
   ·exact this.2 hb
   ·omega
  ·rcases Zp.1 hA with rfl | hA
   ·exact H.1 (box Ts q) (by simp) j s X
   ·exact H.1 A (by simp[hA]) j s X
 have a1:(Qao R m).ok (free (hold M.m (box (Ts.set k (Qao R m)) q::As)) w) w v:=Qwc L r a0;refine⟨h.size,h.defers,h.grow,h.m0,?_,?_,?_,λp hp=>p.2.keep r (λ_ _=>rfl) (h.Xp p hp)⟩
 ·intro A hA;rcases Zp.1 hA with rfl | hA
  ·obtain⟨b,cur,e',hq,hb,hc,h1⟩:=O;refine⟨b,cur,e',hq,hb,⟨by rw[hc.1];simp,λj T u Z hu=>?_⟩,h1⟩;by_cases s:k=j
   ·subst s;have a2:k<Ts.length:=(Ze.1 hk).1;simp[a2] at Z;subst Z;have a3:u=v:=(hc.2 k _ u hk hu).1;rw[a3];exact a1
   ·rw[getElem?_set_ne s] at Z;exact T.keep r (λ_ _=>rfl) (hc.2 j T u Z hu)
  ·exact A.keep r (λ_ _=>rfl) (λ_ _=>rfl) (h.own A (by simp[hA]))
 ·intro A hA j s;rcases Zp.1 hA with rfl | hA
  ·exact h.fresh (box Ts q) (by simp) j s
  ·exact h.fresh A (by simp[hA]) j s
 ·have h2:=pairwise_cons.1 H.2;exact pairwise_cons.2 ⟨λB hB j s=>h2.1 B hB j s,h2.2⟩
end
class TokI (P:Program) (t:TypeId) {α:outParam Type} (R:outParam (Rep α)) (b:outParam Nat) (z:outParam Value):Prop where ok:TOk P t R b z
class UndI (P:Program) (t:TypeId) (d:outParam TypeDesc):Prop where ok:P.underlying t=some d
class TokV (P:Program) (t:TypeId) (b:outParam Nat) (z:outParam Value):Prop where ok:TOk P t rVal b z
class AnyI (P:Program) (ti ts:outParam TypeId):Prop where ok:True
class SpcS (P:Program) (f:FuncId) (S:outParam Prop):Prop where ok:S
class FldI (P:Program) (s:TypeId) (f:Nat) (off:outParam Nat):Prop where ok:Qz P s f off
class QB (P:Program) (f:FuncId):Prop where ok:Qj P f
class Spc0 (P:Program) (f:FuncId) {C:outParam Type} (F:outParam (Option C)) (Ts:outParam (List Ty)) (T:outParam (C->Ty)):Prop where
 ok:∀{r},F=some r->FnOk P f Ts [] (λ_=>[]) (λ_=>T r)
class Spc1 (P:Program) (f:FuncId) {A C:outParam Type} (F:outParam (A->Option C)) (Ts:outParam (A->List Ty)) (T:outParam (C->Ty)):Prop where
 ok:∀{a r},F a=some r->FnOk P f (Ts a) [] (λ_=>[]) (λ_=>T r)
class Spc2 (P:Program) (f:FuncId) {A B C:outParam Type} (F:outParam (A->B->Option C)) (Ts:outParam (A->B->List Ty)) (T:outParam (C->Ty)):Prop where
 ok:∀{a b r},F a b=some r->FnOk P f (Ts a b) [] (λ_=>[]) (λ_=>T r)
class Spc3 (P:Program) (f:FuncId) {A B D C:outParam Type} (F:outParam (A->B->D->Option C)) (Ts:outParam (A->B->D->List Ty)) (T:outParam (C->Ty)):Prop where
 ok:∀{a b d r},F a b d=some r->FnOk P f (Ts a b d) [] (λ_=>[]) (λ_=>T r)
class Spc4 (P:Program) (f:FuncId) {A B D E C:outParam Type} (F:outParam (A->B->D->E->Option C)) (Ts:outParam (A->B->D->E->List Ty)) (T:outParam (C->Ty)):Prop where
 ok:∀{a b d e r},F a b d e=some r->FnOk P f (Ts a b d e) [] (λ_=>[]) (λ_=>T r)
class Spc5 (P:Program) (f:FuncId) {A B D E G C:outParam Type} (F:outParam (A->B->D->E->G->Option C)) (Ts:outParam (A->B->D->E->G->List Ty)) (T:outParam (C->Ty)):Prop where
 ok:∀{a b d e g r},F a b d e g=some r->FnOk P f (Ts a b d e g) [] (λ_=>[]) (λ_=>T r)
def look:List (Nat×Ty)->Nat->Option Ty
 | [],_=>none
 | (s,T)::Γ,t=>bif Nat.beq s t then some T else look Γ t
def QmC {t:Nat}:∀{Γ:List (Nat×Ty)},look Γ t=some T->(t,T)∈Γ
 | (s,U)::Γ,h=>by
  unfold look at h
  cases e:Nat.beq s t with
  | true=>rw[e] at h;obtain rfl:=Zn h;rw[Nat.eq_of_beq_eq_true e];exact Zq
  | false=>rw[e] at h;exact Zz _ (QmC h)
section
variable {Γ:List (Nat×Ty)} {P:Program}
def Fct.l {s:Nat} (h:look Γ s=some T):Fct Γ (.tmp s) T:=λ_ _ _ h0=>h0 (s,T) (QmC h) rfl
def Fct.kI {k:IntKind} {n:Int}:Fct Γ (.const (.int k n)) (tv (.int k n)):=.k
def Fct.kB {b:Bool}:Fct Γ (.const (.bool b)) (tv (.bool b)):=.k
def Grd.l {b:Bool} (h:look Γ dg=some (tv (.bool b))):Grd Γ dg want (b==want):=by intro F w a h0;have:get a dg=.bool b:=h0 _ (QmC h) rfl;rw[this]
def Grd.lc {b r:Bool} (h:look Γ dg=some (Qez r (tv (.bool b)))):Grd Γ dg want (r&&(b==want)):=by obtain⟨i,hi⟩:=ZT.1 (QmC h);exact Grd.c i hi
def tru {c:Bool} (h:c=true:=by
 first
 | with_reducible assumption
 | exact beqT (by with_reducible assumption)
 | exact beqF (by with_reducible assumption)
 | exact QlS (by with_reducible assumption) (by with_reducible assumption)
 | exact QlS (by with_reducible assumption) (beqT (by with_reducible assumption))
 | exact QlS (by with_reducible assumption) (beqF (by with_reducible assumption))):c=true:=h
def opt_h {c:Bool} {x:Option α} {d r:α} (b:c=true) (h:opt c x d=some r):x=some r:=Qfc h b
def hy {p:Prop} (h:p:=by
 first
 | exact opt_h (by with_reducible assumption) (by with_reducible assumption)
 | exact Qfc (by with_reducible assumption) tru
 | exact rm_ok (by with_reducible assumption)
 | with_reducible assumption):p:=h
def Fct.a0 {x:Operand} (h:Fct Γ x T:=by
 first
 | with_reducible exact Fct.kI
 | with_reducible exact Fct.kB
 | ((with_reducible apply Fct.cond);((with_reducible apply Fct.l);exact rfl);exact tru)
 | ((with_reducible apply Fct.l);exact rfl)
 | ((with_reducible apply Fct.left);(with_reducible apply Fct.l);exact rfl)
 | ((with_reducible apply Fct.right);(with_reducible apply Fct.l);exact rfl)
 | ((with_reducible apply Fct.left);(with_reducible apply Fct.cond);((with_reducible apply Fct.l);exact rfl);exact tru)
 | ((with_reducible apply Fct.right);(with_reducible apply Fct.cond);((with_reducible apply Fct.l);exact rfl);exact tru)
 | with_reducible exact Fct.nilsl
 | with_reducible exact Fct.k
 | exact Fct.kI
 | exact Fct.kB
 | with_reducible exact Fct.fnE
 | exact Fct.nilsl
 | exact Fct.k):Fct Γ x T:=h
def Fct.lfn {x:Operand} {f:FuncId} {Tc:List Ty} (h:Fct Γ x (Qbu f Tc):=by
 first
 | with_reducible exact Fct.fnE
 | ((with_reducible apply Fct.l);exact rfl)
 | ((with_reducible apply Fct.cond);((with_reducible apply Fct.l);exact rfl);exact tru)):Fct Γ x (Qbu f Tc):=h
section
variable {x:Operand} {f:FuncId} {Tc:List Ty} {A B C D E G:Type}
def Fct.c1 {F:A->Option C} {Ts b:A->List Ty} {T:C->Ty} (h:Fct Γ x (Qbu f Tc)) (r:Qj P f) (s:Spc1 P f F Ts T) (e:∀a,b a++Tc=Ts a):Fct Γ x (tfn P [] b T λa=>F a):=h.Xo (QgH r λ_ _ q=>e _▸s.ok q)
def Fct.c2 {F:A->B->Option C} {Ts:A->B->List Ty} {r:A->List Ty} {T:C->Ty} {b:B} (h:Fct Γ x (Qbu f Tc)) (H:Qj P f) (s:Spc2 P f F Ts T) (e:∀a,r a++Tc=Ts a b):Fct Γ x (tfn P [] r T λa=>F a b):=h.Xo (QgH H λ_ _ q=>e _▸s.ok q)
def Fct.c3 {F:A->B->D->Option C} {Ts:A->B->D->List Ty} {r:A->List Ty} {T:C->Ty} {b:B} {c:D} (h:Fct Γ x (Qbu f Tc)) (H:Qj P f) (s:Spc3 P f F Ts T) (e:∀a,r a++Tc=Ts a b c):Fct Γ x (tfn P [] r T λa=>F a b c):=h.Xo (QgH H λ_ _ q=>e _▸s.ok q)
def Fct.c4 {F:A->B->D->E->Option C} {Ts:A->B->D->E->List Ty} {r:A->List Ty} {T:C->Ty} {b:B} {c:D} {d:E} (h:Fct Γ x (Qbu f Tc)) (H:Qj P f) (s:Spc4 P f F Ts T) (e:∀a,r a++Tc=Ts a b c d):Fct Γ x (tfn P [] r T λa=>F a b c d):=h.Xo (QgH H λ_ _ q=>e _▸s.ok q)
def Fct.p2 {F:A->B->Option C} {Ts:A->B->List Ty} {b:A×B->List Ty} {T:C->Ty} (h:Fct Γ x (Qbu f Tc)) (r:Qj P f) (s:Spc2 P f F Ts T) (e:∀a,b a++Tc=Ts a.1 a.2):Fct Γ x (tfn P [] b T λa=>F a.1 a.2):=h.Xo (QgH r λ_ _ q=>e _▸s.ok q)
end
def Fct.a {x:Operand} (h:Fct Γ x T:=by
 first
 | exact Fct.a0
 | (apply Fct.c1;exact Fct.lfn;exact QB.ok;exact inferInstance;(intro _;exact rfl))
 | (apply Fct.c2;exact Fct.lfn;exact QB.ok;exact inferInstance;(intro _;exact rfl))
 | (apply Fct.c3;exact Fct.lfn;exact QB.ok;exact inferInstance;(intro _;exact rfl))
 | (apply Fct.c4;exact Fct.lfn;exact QB.ok;exact inferInstance;(intro _;exact rfl))
 | (apply Fct.p2;exact Fct.lfn;exact QB.ok;exact inferInstance;(intro _;exact rfl))):Fct Γ x T:=h
def Grd.a {c:Bool} (h:Grd Γ dg want c:=by
 first
 | ((with_reducible apply Grd.l);exact rfl)
 | ((with_reducible apply Grd.lc);exact rfl)):Grd Γ dg want c:=h
def Bd.a {b:Option Operand} {d i:Int} (h:Bd Γ b d i:=by
 first
 | exact Bd.no _
 | exact Bd.op Fct.a):Bd Γ b d i:=h
def arg {xs:List Operand} (h:Args Γ U xs Ts:=by
 repeat first
  | exact .nil
  | refine .cons (.of Fct.a) ?_
 fail_if_success apply id):Args Γ U xs Ts:=h
section
variable {d:Option Tmp} {ty:TypeId} {pos:String} {af:Array Edge} {g:Option (Nat×Bool)} {fid:FuncId} {xs:List Operand} {ts:Array TypeId} {A B C D E G:Type}
def QmD {S:Prop} {b:List Atom} {T:Value->Ty} [hc:QB P fid] [h:SpcS P fid S] (k:S->FnOk P fid Ts b N T) (ha:Args Γ [] xs Ts):OpJ P ⟨d,.call { callee:=.value (.func fid),args:=xs.toArray,argTypes:=ts },ty,pos,af,g⟩ Γ [] b N T:=QO hc.ok (k h.ok) ha
def QEN {ti ts:TypeId} {s:Str} {x:Operand} [AnyI P ti ts] (ht:P.underlying ts=some .string) (hx:Fct Γ x (tv (.string (sB s)))):OpJ P ⟨d,.makeInterface ts x,ty,pos,af,g⟩ Γ [] [] (λ_=>[]) (λ_=>tv (AnyV.val ti ts (.str s))):=op_mkS ht hx
def QEO {ti ts:TypeId} {n:Int} {x:Operand} [AnyI P ti ts] (ht:P.underlying ti=some (.int .i64)) (hx:Fct Γ x (tv (.int .i64 n))):OpJ P ⟨d,.makeInterface ti x,ty,pos,af,g⟩ Γ [] [] (λ_=>[]) (λ_=>tv (AnyV.val ti ts (.int n))):=op_mkI ht hx
def op_c0 {F:Option C} {T:C->Ty} [hc:QB P fid] [s:Spc0 P fid F Ts T] {r:C} (ha:Args Γ [] xs Ts) (h:F=some r):OpJ P ⟨d,.call { callee:=.value (.func fid),args:=xs.toArray,argTypes:=ts },ty,pos,af,g⟩ Γ [] [] (λ_=>[]) (λ_=>T r):=QO hc.ok (s.ok h) ha
def op_c1 {F:A->Option C} {Ts:A->List Ty} {T:C->Ty} [hc:QB P fid] [s:Spc1 P fid F Ts T] {a:A} {r:C} (ha:Args Γ [] xs (Ts a)) (h:F a=some r):OpJ P ⟨d,.call { callee:=.value (.func fid),args:=xs.toArray,argTypes:=ts },ty,pos,af,g⟩ Γ [] [] (λ_=>[]) (λ_=>T r):=QO hc.ok (s.ok h) ha
def op_c2 {F:A->B->Option C} {Ts:A->B->List Ty} {T:C->Ty} [hc:QB P fid] [s:Spc2 P fid F Ts T] {a:A} {b:B} {r:C} (ha:Args Γ [] xs (Ts a b)) (h:F a b=some r):OpJ P ⟨d,.call { callee:=.value (.func fid),args:=xs.toArray,argTypes:=ts },ty,pos,af,g⟩ Γ [] [] (λ_=>[]) (λ_=>T r):=QO hc.ok (s.ok h) ha
def op_c3 {F:A->B->D->Option C} {Ts:A->B->D->List Ty} {T:C->Ty} [hc:QB P fid] [s:Spc3 P fid F Ts T] {a:A} {b:B} {e:D} {r:C} (ha:Args Γ [] xs (Ts a b e)) (h:F a b e=some r):OpJ P ⟨d,.call { callee:=.value (.func fid),args:=xs.toArray,argTypes:=ts },ty,pos,af,g⟩ Γ [] [] (λ_=>[]) (λ_=>T r):=QO hc.ok (s.ok h) ha
def op_c4 {F:A->B->D->E->Option C} {Ts:A->B->D->E->List Ty} {T:C->Ty} [hc:QB P fid] [s:Spc4 P fid F Ts T] {a:A} {b:B} {e:D} {f:E} {r:C} (ha:Args Γ [] xs (Ts a b e f)) (h:F a b e f=some r):OpJ P ⟨d,.call { callee:=.value (.func fid),args:=xs.toArray,argTypes:=ts },ty,pos,af,g⟩ Γ [] [] (λ_=>[]) (λ_=>T r):=QO hc.ok (s.ok h) ha
def op_c5 {F:A->B->D->E->G->Option C} {Ts:A->B->D->E->G->List Ty} {T:C->Ty} [hc:QB P fid] [s:Spc5 P fid F Ts T] {a:A} {b:B} {e:D} {f:E} {k:G} {r:C} (ha:Args Γ [] xs (Ts a b e f k)) (h:F a b e f k=some r):OpJ P ⟨d,.call { callee:=.value (.func fid),args:=xs.toArray,argTypes:=ts },ty,pos,af,g⟩ Γ [] [] (λ_=>[]) (λ_=>T r):=QO hc.ok (s.ok h) ha
end
structure FV where
 α:Type
 R:Rep α
 u:α
def fvs (l:List FV):List Ty:=l.flatMap λf=>f.R.cs f.u
def offs:Nat->List FV->List (Nat×Nat)
 | _,[]=>[]
 | o,f::l=>(o,f.R.n)::offs (o+f.R.n) l
structure Bld (P:Program) (t:TypeId) (Z:List FV):Prop where
 ok:∃(fs:Array Field) (pl:Array (Nat×Nat)) (z:Value),P.underlying t=some (.struct fs)/\(∀w,((fs.mapM λf=>do pure (f.offset,<-sizeOf f.type):Sem (Array (Nat×Nat)))).run P w=.ok pl w)/\(P.info? t).bind (·.zero)=some z/\(∀F w,QW (fvs Z) F w z.cells.toList)/\pl.toList=offs 0 Z
inductive Qfu (Γ:List (Nat×Ty)):List (Nat×Operand)->Nat->List FV->List FV->Prop where
 | nil {k:Nat} {Z:List FV}:Qfu Γ [] k Z Z
 | hit {k:Nat} {x:Operand} {ps:List (Nat×Operand)} {α:Type} {R:Rep α} {u0 u:α} {Z Z':List FV} (h:Fct Γ x (R.ty u)) (hs:Qfu Γ ps (k+1) Z Z'):Qfu Γ ((k,x)::ps) k (⟨α,R,u0⟩::Z) (⟨α,R,u⟩::Z')
 | miss {k:Nat} {ps:List (Nat×Operand)} {f:FV} {Z Z':List FV} (hs:Qfu Γ ps (k+1) Z Z'):Qfu Γ ps k (f::Z) (f::Z')
def Qfu.parts {pl:Array (Nat×Nat)} {k:Nat} {Z b:List FV} (h:Qfu Γ ps k Z b):∀(pre:List Ty),(∀i,pl[k+i]?=(offs pre.length Z)[i]?)->QlQ Γ pl ps (pre++fvs Z) (pre++fvs b):=by
 induction h with
 | nil=>exact λpre _=>.nil _
 | @hit k x ps α R r u Z b h H s=>
  intro pre hp;have h0:=hp 0;have e1:fvs (⟨α,R,r⟩::Z)=R.cs r++fvs Z:=by unfold fvs;rw[flatMap_cons]
  have e2:fvs (⟨α,R,u⟩::b)=R.cs u++fvs b:=by unfold fvs;rw[flatMap_cons]
  have L:splice (pre++fvs (⟨α,R,r⟩::Z)) pre.length (R.cs u)=(pre++R.cs u)++fvs Z:=by rw[e1];unfold splice;rw[take_left,R.len,<-R.len r,<-ZE pre,show pre.length+(R.cs r).length=(pre++R.cs r).length by rw[Zf],drop_left]
  refine .cons (R:=R) (u:=u) (off:=pre.length) (by rw[Nat.add_zero] at h0;rw[h0];rfl) h (by rw[e1,Zf,Zf,R.len];omega) ?_;rw[L,e2,<-ZE];refine s (pre++R.cs u) λi=>?_;have:=hp (i+1);rw[show k+1+i=k+(i+1) by omega,this,Zf,R.len];rfl
 | @miss k ps f Z b H s=>
  intro pre hp;have e1:∀W,pre++fvs (f::W)=(pre++f.R.cs f.u)++fvs W:=λW=>by unfold fvs;rw[flatMap_cons,ZE]
  rw[e1,e1];refine s (pre++f.R.cs f.u) λi=>?_;have:=hp (i+1);rw[show k+1+i=k+(i+1) by omega,this,Zf,f.R.len];rfl
def pf {k:Nat} {Z b:List FV} (h:Qfu Γ ps k Z b:=by
 repeat first
  | exact Qfu.nil
  | (apply Qfu.hit;exact .a)
  | apply Qfu.miss
 fail_if_success apply id):Qfu Γ ps k Z b:=h
section
variable {d:Option Tmp} {ty t e:TypeId} {pos:String} {af:Array Edge} {g:Option (Nat×Bool)} {x y:Operand} {α β:Type} {R:Rep α} {R2:Rep β} {bytes:Nat} {z:Value}
def QyJ {Z b:List FV} {u:α} (h:Bld P t Z) (hz:TOk P t R bytes z) (hps:Qfu Γ ps 0 Z b) (hu:R.cs u=fvs b) (ha:R.agg=true):OpJ P ⟨d,.build t ps.toArray,ty,pos,af,g⟩ Γ [] [] (λ_=>[]) (λ_=>R.ty u):=by
 obtain⟨W,pl,X,r,s,H,L,O⟩:=h.ok;have e:R.ty u=tagg (fvs b):=by unfold Rep.ty;rw[ha,hu]
 rw[e];refine Qby r s H L ?_;have:=hps.parts (pl:=pl) [] λi=>by rw[Nat.zero_add];show pl[i]?=(offs 0 Z)[i]?;rw[<-O,Array.getElem?_toList]
 simpa using this
structure Bl (P:Program) (t:TypeId) (Z l:List FV) (T:Ty):Prop where
 ok:∀{Γ:List (Nat×Ty)} {d:Option Tmp} {ty:TypeId} {pos:String} {af:Array Edge} {g:Option (Nat×Bool)} {ps:List (Nat×Operand)} (hps:Qfu Γ ps 0 Z l),OpJ P ⟨d,.build t ps.toArray,ty,pos,af,g⟩ Γ [] [] (λ_=>[]) (λ_=>T)
def Bl.of {Z l:List FV} {u:α} (b:Bld P t Z) (hz:TOk P t R bytes z) (hu:R.cs u=fvs l:=by rfl) (ha:R.agg=true:=by rfl):Bl P t Z l (R.ty u):=⟨λh=>QyJ b hz h hu ha⟩
structure BlA (P:Program) (t:TypeId) {α:Type} (R:Rep α) (l:List α) (T:Ty):Prop where
 ok:∀{Γ:List (Nat×Ty)} {d:Option Tmp} {ty:TypeId} {pos:String} {af:Array Edge} {g:Option (Nat×Bool)} {ps:List (Nat×Operand)} (hps:Qdo Γ R 0 ps l),OpJ P ⟨d,.build t ps.toArray,ty,pos,af,g⟩ Γ [] [] (λ_=>[]) (λ_=>T)
class BldL (P:Program) (t:TypeId) (S:outParam Prop):Prop where ok:S
def op_bld {S:Prop} {ps:Array (Nat×Operand)} [h:BldL P t S] {T:Value->Ty} (k:S->OpJ P ⟨d,.build t ps,ty,pos,af,g⟩ Γ [] [] (λ_=>[]) T):OpJ P ⟨d,.build t ps,ty,pos,af,g⟩ Γ [] [] (λ_=>[]) T:=k h.ok
def Qs6 {n:Nat} {us:List α} {u:β} (hu:P.underlying t=some (.array n e)) (b:TOk P e R bytes z) {r:Nat} (hz:TOk P t R2 r zt) (hps:Qdo Γ R 0 ps us) (h:zt.cells.size=us.length * R.n) (s:R2.cs u=us.flatMap R.cs) (ha:R2.agg=true):
  OpJ P ⟨d,.build t ps.toArray,ty,pos,af,g⟩ Γ [] [] (λ_=>[]) (λ_=>R2.ty u):=by
 have e:R2.ty u=tagg (us.flatMap R.cs):=by unfold Rep.ty;rw[ha,s]
 rw[e];refine Qt3 hu b ?_ h (by simpa using hps);obtain⟨i,hi,H,_⟩:=hz.info;rw[hi];exact H
def BlA.of {n:Nat} {l:List α} {u:β} (hu:P.underlying t=some (.array n e)) (b:TOk P e R bytes z) {s:Nat} (hz:TOk P t R2 s zt) (r:zt.cells.size=l.length * R.n:=by rfl) (H:R2.cs u=l.flatMap R.cs:=by rfl) (ha:R2.agg=true:=by rfl):BlA P t R l (R2.ty u):=⟨λh=>Qs6 hu b hz h r H ha⟩
def Qub {len:Nat} {us:List α} (ht:P.underlying t=some (.slice e)) (hz:TOk P e R bytes z) (hps:Qdo Γ R 0 ps us) (hlen:us.length=len) (h24:len * R.n<=16777216): OpJ P ⟨d,.buildSlice t len ps.toArray,ty,pos,af,g⟩ Γ [] [] (λ_=>[]) (λ_=>tsl R us):=Qaw ht hz (by simpa using hps) hlen h24
def prt {us:List α} (h:Qdo Γ R i ps us:=by
 repeat first
  | exact Qdo.nil _
  | (apply Qdo.cons;exact .a)
 fail_if_success apply id):Qdo Γ R i ps us:=h
def QA8 {n:Nat} {k:IntKind} {i:Int} (ht:P.underlying t=some (.array n e)) (hz:TOk P e R bytes z) (hx:Fct Γ x (tptr Ts)) (hi:Fct Γ y (tv (.int k i))) (h:i=Int.ofNat j) (b:Nat.blt j n=true): OpJ P ⟨d,.indexAddr t x y,ty,pos,af,g⟩ Γ [] [] (λ_=>[]) (λ_=>tptr (Ts.drop (j * R.n))):=QlV j h ht hz hx hi (by rw[Nat.blt_eq] at b;exact b)
def QEP (ht:P.underlying ty=some (.slice e)) (hz:TOk P e R bytes z):OpJ P ⟨d,.assign (.const (.slice none 0 0)),ty,pos,af,g⟩ Γ [] [] (λ_=>[]) (λ_=>tand (tv (.slice none 0 0)) (tsl R ([]:List α))):=Ql (Fct.k.both .nilsl)
def QEQ (ht:P.underlying ty=some (.slice e)) (hz:TOk P e R bytes z):OpJ P ⟨d,.move (.const (.slice none 0 0)),ty,pos,af,g⟩ Γ [] [] (λ_=>[]) (λ_=>tand (tv (.slice none 0 0)) (tsl R ([]:List α))):=Qaa (Fct.k.both .nilsl)
def leb2 {a b:Nat} (h:Nat.ble a b=true:=by exact rfl):a<=b:=Nat.le_of_ble_eq_true h
end
def QA9 {d:Option Tmp} {ty t:TypeId} {g:Option (Nat×Bool)} {x:Operand} {bytes:Nat} {z:Value} {u:α} (hz:TOk P t R bytes z) (hx:Fct Γ x (R.ty u)):OpJ P ⟨d,.box t x,ty,pos,af,g⟩ Γ [] [] (λ_=>[]) (λ_=>tptr (R.cs u)):=Qg4 hx
def cps {xs:List Operand} (h:Caps Γ xs Ts:=by
 repeat first
  | exact Caps.nil
  | (apply Caps.cons;exact .a0)
 fail_if_success apply id):Caps Γ xs Ts:=h
def oj {o:Oper} (h:OpJ P o Γ [] [] (λ_=>[]) (λ_=>T):=by
 first
 | ((with_reducible apply QEP);exact UndI.ok;exact TokI.ok)
 | ((with_reducible apply QEQ);exact UndI.ok;exact TokI.ok)
 | ((with_reducible apply Qaa);exact .a)
 | ((with_reducible apply Ql);exact .a)
 | ((with_reducible apply QM);exact TokI.ok;exact .a;exact rfl)
 | ((with_reducible apply Q4);exact TokI.ok;exact .a)
 | ((with_reducible apply QP);exact FldI.ok;exact .a)
 | ((with_reducible apply Qam);exact UndI.ok;exact TokI.ok;exact .a;exact .a;exact hy)
 | ((with_reducible apply QaW);exact UndI.ok;exact .a)
 | ((with_reducible apply Qbg);exact .a;exact .a)
 | ((with_reducible apply Qpo);exact .a;exact .a)
 | ((with_reducible apply QbO);exact .a;exact .a)
 | ((with_reducible apply Qd0);exact .a;exact .a)
 | ((with_reducible apply QlN);exact .a;exact .a)
 | ((with_reducible apply Qas);exact .a;exact rfl)
 | ((with_reducible apply Qfr);exact .a;(intro _;exact .a))
 | ((with_reducible apply op_or);exact .a;(intro _;exact .a))
 | ((with_reducible apply Qpp);exact .a;exact .a)
 | ((with_reducible apply Qia);exact .a;exact .a)
 | ((with_reducible apply QiS);exact .a;exact .a)
 | ((with_reducible apply op_mul);exact .a;exact .a)
 | ((with_reducible apply Qqx);exact .a)
 | ((with_reducible apply QA9);exact TokI.ok;exact .a)
 | ((with_reducible apply QAe);exact UndI.ok;exact TokI.ok;exact .a;exact .a;exact .a;exact hy)
 | ((with_reducible apply QkN);exact .a;exact .a)
 | ((with_reducible apply Qsi);exact .a;exact .a)
 | ((with_reducible apply QkL);exact .a)
 | ((with_reducible apply Qpq);exact .a)
 | ((with_reducible apply Qxg);exact .a;exact .a;exact nz_ne hy)
 | ((with_reducible apply Qxf);exact .a;exact .a;exact nz_ne hy)
 | ((with_reducible apply op_c1);exact arg;exact hy)
 | ((with_reducible apply op_c2);exact arg;exact hy)
 | ((with_reducible apply op_c3);exact arg;exact hy)
 | ((with_reducible apply op_c4);exact arg;exact hy)
 | ((with_reducible apply op_c5);exact arg;exact hy)
 | ((with_reducible apply op_c0);exact arg;exact hy)
 | ((with_reducible apply QCU);exact .a;exact .a)
 | ((with_reducible apply QCV);exact .a;exact .a)
 | ((with_reducible apply Qn0);exact .a;exact .a;exact hy)
 | ((with_reducible apply op_lenS');exact UndI.ok;exact .a)
 | ((with_reducible apply op_eqNil');exact UndI.ok;exact .a)
 | ((with_reducible apply Qxn);exact UndI.ok;exact .a)
 | ((with_reducible apply Qxo);exact UndI.ok;exact .a)
 | ((with_reducible apply QA8);exact UndI.ok;exact TokI.ok;exact .a;exact .a;exact rfl;exact rfl)
 | ((with_reducible apply Qub);exact UndI.ok;exact TokI.ok;exact prt;exact rfl;exact leb2)
 | ((with_reducible apply op_bld);intro s;(first | (apply Bl.ok;apply s;case hps=>exact pf) | (apply BlA.ok;apply s;case hps=>exact prt)))
 | ((with_reducible apply QCX);exact UndI.ok;exact .a;exact .a;exact .a;exact hy)
 | ((with_reducible apply QCW);exact UndI.ok;exact .a;exact .a;exact hy)
 | ((with_reducible apply QEN);exact UndI.ok;exact .a)
 | ((with_reducible apply QEO);exact UndI.ok;exact .a)
 | ((with_reducible apply Qic);exact cps)
 | ((with_reducible apply Qmp);exact .a;exact arg;exact hy)
 | ((with_reducible apply Qmp (u:=(_,_)));exact .a;exact arg;exact hy)
 | ((with_reducible apply Qmp (u:=(_,_,_)));exact .a;exact arg;exact hy)):OpJ P o Γ [] [] (λ_=>[]) (λ_=>T):=h
section
variable {ops:List Oper} {V:List Ver} {new:Nat->Value} {i:Nat} {os:List Oper} {is:List Info} {T:Ty} {d:Tmp} {ins:Op} {ty:TypeId} {pos:String} {af:Array Edge}
def Run.a (h:OpJ P ⟨some d,ins,ty,pos,af,none⟩ Γ [] [] (λ_=>[]) (λ_=>T)) (b:Run P ops V new (i+1) ((d,T)::Γ) os is): Run P ops V new i Γ (⟨some d,ins,ty,pos,af,none⟩::os) (⟨⟨[],λ_=>T⟩,[],[],[]⟩::is):=Run.p rfl h b
def Run.an (h:OpJ P ⟨none,ins,ty,pos,af,none⟩ Γ [] [] (λ_=>[]) (λ_=>T)) (b:Run P ops V new (i+1) Γ os is): Run P ops V new i Γ (⟨none,ins,ty,pos,af,none⟩::os) (⟨⟨[],λ_=>T⟩,[],[],[]⟩::is):=Run.p rfl h b
end
end
def Tr (P:Program) (M:Fr) (w0:World) (n:Nat) (Γ:List (Nat×Ty)) (As:List Atom) (c:Code) (Q:Exit->Act->World->Prop):Prop:=∀a w,St M w0 n Γ As a w->c.wp P Q a w
def To (M:Fr) (w0:World) (n:Nat) (Γ:List (Nat×Ty)) (As:List Atom) (K:Act->World->Prop):Prop:=∀a w,St M w0 n Γ As a w->K a w
def ty0 (T:Ty):TyN:=⟨[],λ_=>T⟩
def ty1 (i:Nat) (f:Value->Ty):TyN:=⟨[i],λl=>f (l.getD 0 undef)⟩
inductive Out:List (Nat×Ty)->List (Nat×Ty)->Prop
  | nil:Out [] []
  | cons {s:Nat} {T T':Ty} {l m:List (Nat×Ty)} (e:T=T') (h:Out l m):Out ((s,T)::l) ((s,T')::m)
def Out.eq {l m:List (Nat×Ty)} (h:Out l m):l=m:=by
  induction h with
  | nil=>rfl
  | cons e _ b=>rw[b,e]
def ty0_eq:TyN.ty new (ty0 T)=T:=rfl
def ty1_eq {f:Value->Ty}:TyN.ty new (ty1 i f)=f (new i):=rfl
inductive OutA:List Atom->List Atom->Prop
  | nil:OutA [] []
  | cons {A B:Atom} {l m:List Atom} (e:A=B) (h:OutA l m):OutA (A::l) (B::m)
def OutA.eq {l m:List Atom} (h:OutA l m):l=m:=by
  induction h with
  | nil=>rfl
  | cons e _ b=>rw[b,e]
def Qs7 {u:Nat} {A:Atom} (h:V[u]?=some (v0 A)):ver V u new=A:=by unfold ver;rw[h]
def QpV {u:Nat} {f:Value->Atom} (h:V[u]?=some (v1 i f)):ver V u new=f (new i):=by unfold ver;rw[h];rfl
def QpW {u:Nat} {f:Value->Value->Atom} (h:V[u]?=some (v2 i j f)):ver V u new=f (new i) (new j):=by unfold ver;rw[h];rfl
def ver_v3 {u k:Nat} {f:Value->Value->Value->Atom} (h:V[u]?=some (v3 i j k f)):ver V u new=f (new i) (new j) (new k):=by unfold ver;rw[h];rfl
def outs {l m:List (Nat×Ty)} (h:Out l m:=by
  repeat first
    | exact Out.nil
    | (apply Out.cons;(first | with_reducible exact ty0_eq | with_reducible exact ty1_eq | exact rfl))
  fail_if_success apply id):Out l m:=h
def outA {l m:List Atom} (h:OutA l m:=by
  repeat first
    | exact OutA.nil
    | (apply OutA.cons;(first | exact Qs7 rfl | exact QpV rfl | exact QpW rfl | exact ver_v3 rfl))
  fail_if_success apply id):OutA l m:=h
def outB {l m:List Atom} (h:OutA l m:=by
  repeat first
    | exact OutA.nil
    | (apply OutA.cons;exact rfl)
  fail_if_success apply id):OutA l m:=h
def Nx (i:Nat) (ns:List Nat):Prop:=∀k j,ns[k]?=some j->j=i+1+k
def Nx.one (h:Nx i (j::ns)):j=i+1:=h 0 j rfl
def Nx.tl (h:Nx i (j::ns)):Nx j ns:=λk m hm=>by have:=h (k+1) m hm;have:=h.one;omega
@[reducible] def lits : List Nat := 1 :: 2 :: 3 :: 4 :: 5 :: 6 :: 7 :: 8 :: 9 :: 10 :: 11 :: 12 :: 13 :: 14 :: 15 :: 16 :: 17 :: 18 :: 19 :: 20 :: 21 :: 22 :: 23 :: 24 :: 25 :: 26 :: 27 :: 28 :: 29 :: 30 :: 31 :: 32 :: 33 :: 34 :: 35 :: 36 :: 37 :: 38 :: 39 :: 40 :: 41 :: 42 :: 43 :: 44 :: 45 :: 46 :: 47 :: 48 :: 49 :: 50 :: 51 :: 52 :: 53 :: 54 :: 55 :: 56 :: 57 :: 58 :: 59 :: 60 :: 61 :: 62 :: 63 :: 64 :: 65 :: 66 :: 67 :: 68 :: 69 :: 70 :: 71 :: 72 :: 73 :: 74 :: 75 :: 76 :: 77 :: 78 :: 79 :: 80 :: 81 :: 82 :: 83 :: 84 :: 85 :: 86 :: 87 :: 88 :: 89 :: 90 :: 91 :: 92 :: 93 :: 94 :: 95 :: 96 :: 97 :: 98 :: 99 :: 100 :: 101 :: 102 :: 103 :: 104 :: 105 :: 106 :: 107 :: 108 :: 109 :: 110 :: 111 :: 112 :: 113 :: 114 :: 115 :: 116 :: 117 :: 118 :: 119 :: 120 :: 121 :: 122 :: 123 :: 124 :: 125 :: 126 :: 127 :: 128 :: 129 :: []
theorem Qol:Nx 0 lits:=λk j h=>by
  have e:lits=range' 1 129:=rfl;have b:k<129:=by have:=(Ze.1 h).1;rw[e,length_range'] at this;exact this
  rw[e,getElem?_range' b] at h;have:=Zn h;omega
def RunM (mks ns:List Nat) (P:Program) (ops:List Oper) (V:List Ver) (new:Nat->Value) (i:Nat) (Γ:List (Nat×Ty)) (os:List Oper) (is:List Info):Prop:=Nx i ns->Run P ops V new i Γ os is
def Had (mks:List Nat) (V:List Ver) (new:Nat->Value) (i u:Nat) (A:Atom):Prop:=Nat.ble (mks.getD u 0) i=true/\ver V u new=A
def Mk (mks:List Nat) (V:List Ver) (new:Nat->Value) (i m:Nat) (N:Value->Atom):Prop:=Nat.beq (mks.getD m 0) (i+1)=true/\∀x,ver V m (upd new i x)=N x
section
variable {mks:List Nat} {V:List Ver} {new:Nat->Value} {i u j k:Nat} {A:Atom} {f:Value->Atom} {f2:Value->Value->Atom}
structure Cn (k:Nat) (p:Prop):Prop where ok:p
def Cn.nx {p:Prop} (h:Cn k p):Cn (k+1) p:=⟨h.ok⟩
def Had.a0 (hm:Nat.ble (mks.getD u 0) i=true) (h:V[u]?=some (v0 A)):Cn u (Had mks V new i u A):=⟨hm,Qs7 h⟩
def Had.a1 (hm:Nat.ble (mks.getD u 0) i=true) (h:V[u]?=some (v1 j f)) (e:f (new j)=A):Cn u (Had mks V new i u A):=⟨hm,e▸QpV h⟩
def Had.a2 (hm:Nat.ble (mks.getD u 0) i=true) (h:V[u]?=some (v2 j k f2)) (e:f2 (new j) (new k)=A):Cn u (Had mks V new i u A):=⟨hm,e▸QpW h⟩
def Mk.a0 (hm:Nat.beq (mks.getD u 0) (i+1)=true) (h:V[u]?=some (v0 A)):Cn u (Mk mks V new i u (λ_=>A)):=⟨hm,λ_=>Qs7 h⟩
def Mk.a1 (hm:Nat.beq (mks.getD u 0) (i+1)=true) (h:V[u]?=some (v1 i f)):Cn u (Mk mks V new i u f):=⟨hm,λx=>by rw[QpV h,Qmf]⟩
def Mk.a1' (hm:Nat.beq (mks.getD u 0) (i+1)=true) (h:V[u]?=some (v1 j f)) (b:Nat.beq j i=false) (e:f (new j)=A):Cn u (Mk mks V new i u (λ_=>A)):=⟨hm,λx=>by rw[QpV h,Qfo (Nat.ne_of_beq_eq_false b),e]⟩
def Mk.a2' (hm:Nat.beq (mks.getD u 0) (i+1)=true) (h:V[u]?=some (v2 j k f2)) (b:Nat.beq j i=false) (r:Nat.beq k i=false) (e:f2 (new j) (new k)=A):Cn u (Mk mks V new i u (λ_=>A)):=⟨hm,λx=>by rw[QpW h,Qfo (Nat.ne_of_beq_eq_false b),Qfo (Nat.ne_of_beq_eq_false r),e]⟩
def Mk.a2a (hm:Nat.beq (mks.getD u 0) (i+1)=true) (h:V[u]?=some (v2 j i f2)) (b:Nat.beq j i=false):Cn u (Mk mks V new i u (λv=>f2 (new j) v)):=⟨hm,λx=>by rw[QpW h,Qmf,Qfo (Nat.ne_of_beq_eq_false b)]⟩
end
def had {u:Nat} {A:Atom} (h:Cn 14 (Had mks V new i u A):=by
  repeat first
  | exact Had.a0 rfl rfl | exact Had.a1 rfl rfl rfl | exact Had.a2 rfl rfl rfl
  | apply Cn.nx):Had mks V new i u A:=h.ok
def mkd {m:Nat} {N:Value->Atom} (h:Cn 14 (Mk mks V new i m N):=by
  repeat first
  | exact Mk.a0 rfl rfl | exact Mk.a1 rfl rfl | exact Mk.a1' rfl rfl rfl rfl | exact Mk.a2' rfl rfl rfl rfl rfl | exact Mk.a2a rfl rfl rfl
  | apply Cn.nx):Mk mks V new i m N:=h.ok
section
variable {P:Program} {mks ns:List Nat} {j:Nat} {ops:List Oper} {V:List Ver} {new:Nat->Value} {i:Nat} {Γ:List (Nat×Ty)} {os:List Oper} {is:List Info} {T:Ty} {d:Tmp} {ins:Op} {ty:TypeId} {pos:String} {af:Array Edge} {A:Atom} {g dg u m:Nat} {want c:Bool}
def RunM.n:RunM mks ns P ops V new i Γ [] []:=λ_=>.nil i Γ
def QF4 (mks:List Nat) (P:Program) (ops:List Oper) (V:List Ver) (new:Nat->Value) (i:Nat) (Γ:List (Nat×Ty)) (o:Oper) (I:Info) (Γ':List (Nat×Ty)):Prop:=∀os is,Run P ops V new (i+1) Γ' os is->Run P ops V new i Γ (o::os) (I::is)
def stp {o:Oper} {I:Info} (h:QF4 mks P ops V new i Γ o I Γ') (k:RunM mks ns P ops V new j Γ' os is):RunM mks (j::ns) P ops V new i Γ (o::os) (I::is):=λhx=>h os is (by have h:=k hx.tl;rw[hx.one] at h;exact h)
def QF4.r0 (r:elem (i+1) mks=false) (h:OpJ P ⟨some d,ins,ty,pos,af,none⟩ Γ [] [] (λ_=>[]) (λ_=>T)):QF4 mks P ops V new i Γ ⟨some d,ins,ty,pos,af,none⟩ ⟨ty0 T,[],[],[]⟩ ((d,T)::Γ):=λ_ _ b=>Run.p rfl h b
def QF4.rn (h:OpJ P ⟨none,ins,ty,pos,af,none⟩ Γ [] [] (λ_=>[]) (λ_=>T)):QF4 mks P ops V new i Γ ⟨none,ins,ty,pos,af,none⟩ ⟨ty0 T,[],[],[]⟩ Γ:=λ_ _ b=>Run.p rfl h b
def QF4.rg (r:elem (i+1) mks=false) (s:(ops[g]?).bind (·.dst)=some dg) (H:Grd Γ dg want c) (h:c=true->OpJ P ⟨some d,ins,ty,pos,af,some (g,want)⟩ Γ [] [] (λ_=>[]) (λ_=>T)): QF4 mks P ops V new i Γ ⟨some d,ins,ty,pos,af,some (g,want)⟩ ⟨ty0 (Qez c T),[],[],[]⟩ ((d,Qez c T)::Γ):=λ_ _ b=>Run.g rfl s H h b
structure Cu (q k:Nat) (p:Prop):Prop where c:p
def Cu.ok {k:Nat} {p:Prop} (h:Cu 0 k p):p:=h.c
def Cu.nx {q k:Nat} {p:Prop} (h:Cu (q+1) k p):Cu q (k+1) p:=⟨h.c⟩
def QF4.rd {f:Value->Ty} {q k:Nat} (r:Nat.beq q i=false) (h:∀v,new q=v->OpJ P ⟨some d,ins,ty,pos,af,none⟩ Γ [] [] (λ_=>[]) (λ_=>f v)): Cu q k (QF4 mks P ops V new i Γ ⟨some d,ins,ty,pos,af,none⟩ ⟨ty1 q f,[],[],[]⟩ ((d,f (new q))::Γ)):=.mk λ_ _ b=>Run.pd q r rfl (h _ rfl) b
def QF4.ru (h:OpJ P ⟨some d,ins,ty,pos,af,none⟩ Γ [A] [] (λ_=>[]) (λ_=>T)) (hA:Had mks V new i u A):QF4 mks P ops V new i Γ ⟨some d,ins,ty,pos,af,none⟩ ⟨ty0 T,[u],[],[]⟩ ((d,T)::Γ):=λ_ _ b=>Run.u [u] (by simp[hA.2]) rfl h b
def QF4.rgu (r:(ops[g]?).bind (·.dst)=some dg) (s:Grd Γ dg want c) (h:c=true->OpJ P ⟨some d,ins,ty,pos,af,some (g,want)⟩ Γ [A] [] (λ_=>[]) (λ_=>T)) (hA:Had mks V new i u A): QF4 mks P ops V new i Γ ⟨some d,ins,ty,pos,af,some (g,want)⟩ ⟨ty0 (Qez c T),[u],[],[]⟩ ((d,Qez c T)::Γ):=λ_ _ b=>Run.gu [u] (by simp[hA.2]) rfl r s h b
def QF4.rm {f:Value->Ty} {N:Value->Atom} (h:OpJ P ⟨some d,ins,ty,pos,af,none⟩ Γ [] [] (λv=>[N v]) f) (hV:Mk mks V new i m N):
    QF4 mks P ops V new i Γ ⟨some d,ins,ty,pos,af,none⟩ ⟨ty1 i f,[],[],[m]⟩ ((d,f (new i))::Γ):=λ_ _ b=>Run.m [] [m] rfl (by
    funext x
    show [ver V m (upd new i x)]=_;rw[hV.2]) rfl h b
def QF4.re {f:Value->Ty} {N:Value->Atom} (h:OpJ P ⟨some d,ins,ty,pos,af,none⟩ Γ [] [A] (λv=>[N v]) f) (hA:Had mks V new i u A) (hV:Mk mks V new i m N):
    QF4 mks P ops V new i Γ ⟨some d,ins,ty,pos,af,none⟩ ⟨ty1 i f,[],[u],[m]⟩ ((d,f (new i))::Γ):=λ_ _ b=>Run.e [] [u] [m] rfl (by simp[hA.2]) (by
    funext x
    show [ver V m (upd new i x)]=_;rw[hV.2]) rfl h b
def QF4.rt {r:Atom} {u2:Nat} (h:OpJ P ⟨none,ins,ty,pos,af,none⟩ Γ [r] [A] (λ_=>[B]) (λ_=>tany)) (hA:Had mks V new i u A) (hU:Had mks V new i u2 r) (hV:Mk mks V new i m (λ_=>B)):
    QF4 mks P ops V new i Γ ⟨none,ins,ty,pos,af,none⟩ ⟨ty1 i λ_=>tany,[u2],[u],[m]⟩ Γ:=λ_ _ b=>Run.e [u2] [u] [m] (by simp[hU.2]) (by simp[hA.2]) (by
    funext x
    show [ver V m (upd new i x)]=_;rw[hV.2]) rfl h b
def QF4.rk (h:OpJ P ⟨some d,ins,ty,pos,af,none⟩ Γ [] [A] (λ_=>[B]) (λ_=>T)) (hA:Had mks V new i u A) (hV:Mk mks V new i m (λ_=>B)):
    QF4 mks P ops V new i Γ ⟨some d,ins,ty,pos,af,none⟩ ⟨ty0 T,[],[u],[m]⟩ ((d,T)::Γ):=λ_ _ b=>.step (.plain rfl (by
    have e1:([m].map λv=>ver V v (upd new i undef))=[B]:=by show [ver V m (upd new i undef)]=_;rw[hV.2]
    have e2:(λx=>[m].map λv=>ver V v (upd new i x))=λ_=>[B]:=by funext x;show [ver V m (upd new i x)]=_;rw[hV.2]
    have r:([u].map λv=>ver V v new)=[A]:=by show [ver V u new]=_;rw[hA.2]
    show OpJ P _ Γ [] ([u].map λv=>ver V v new) (λx=>[m].map λv=>ver V v (upd new i x)) (λ_=>T);rw[e2,r];exact h)) b
def QF4.rs (h:OpJ P ⟨none,ins,ty,pos,af,none⟩ Γ [] [A] (λ_=>[B]) (λ_=>tany)) (hA:Had mks V new i u A) (hV:Mk mks V new i m (λ_=>B)):
    QF4 mks P ops V new i Γ ⟨none,ins,ty,pos,af,none⟩ ⟨ty1 i λ_=>tany,[],[u],[m]⟩ Γ:=λ_ _ b=>Run.e [] [u] [m] rfl (by simp[hA.2]) (by
    funext x
    show [ver V m (upd new i x)]=_;rw[hV.2]) rfl h b
end
structure Zok (P:Program) (t:TypeId) {α:Type} (R:Rep α) (a:α) (z:Value):Prop where ok:∀F w,(R.ty a).ok F w z
class ZokI (P:Program) (t:TypeId) {α:outParam Type} (R:outParam (Rep α)) (a:outParam α) (z:outParam Value):Prop where ok:Zok P t R a z
section
variable {Γ:List (Nat×Ty)} {P:Program} {d:Option Tmp} {ty:TypeId} {pos:String} {af:Array Edge} {g:Option (Nat×Bool)} {x y:Operand} {t e:TypeId} {α:Type} {R:Rep α} {bytes:Nat} {z:Value}
def QyK {a:α} (hz:TOk P t R bytes z) (h0:Zok P t R a z):OpJ P ⟨d,.alloc t,ty,pos,af,g⟩ Γ [] [] (λp=>[box (R.cs a) p]) (λp=>tv p):=QaL hz h0.ok
def QyL {n:Int} {k r:IntKind} {b:α} {us:List α} (ht:P.underlying t=some (.slice e)) (hz:TOk P e R bytes z) (h0:Zok P e R b z) (hb:bytes<=2048) (hx:Fct Γ x (tv (.int k n))) (hy:Fct Γ y (tv (.int r n))) (h:mk n b=some us):OpJ P ⟨d,.makeSlice t x y,ty,pos,af,g⟩ Γ [] [] (λv=>[own R e us v]) (λv=>tv v):=Qhl ht hz h0.ok hb hx hy h
def Qs8 {len:Nat} {us:List α} (ht:P.underlying t=some (.slice e)) (hz:TOk P e R bytes z) (hps:Qdo Γ R 0 ps us) (hlen:us.length=len) (h24:len * R.n<=16777216) (hm:len<=16777216): OpJ P ⟨d,.buildSlice t len ps.toArray,ty,pos,af,g⟩ Γ [] [] (λv=>[own R e us v]) (λv=>tv v):=Qg5 ht hz (by simpa using hps) hlen h24 hm
def QER {u:α} (hz:TOk P t R bytes z) (hx:Fct Γ x (R.ty u)):OpJ P ⟨d,.box t x,ty,pos,af,g⟩ Γ [] [] (λp=>[box (R.cs u) p]) (λp=>tv p):=QlO hx
end
def leb' {a b:Nat} (h:Nat.ble a b=true:=by exact rfl):a<=b:=Nat.le_of_ble_eq_true h
def sto {o:Oper} {I:Info} (h:QF4 mks P ops V new i Γ o I Γ':=by
  first
    | ((with_reducible apply QF4.r0);exact rfl;exact oj)
    | ((with_reducible apply QF4.rg);exact rfl;exact rfl;exact Grd.a;(intro b;exact oj))
    | ((with_reducible apply QF4.ru)
       (first
        | ((with_reducible apply QcA)
           case hz=>exact TokI.ok
           case hp=>exact .a
           case hA=>exact had
           case h=>exact hy)
        | ((with_reducible apply Qg3)
           case ht=>exact UndI.ok
           case hx=>exact .a
           case hA=>exact had)
        | ((with_reducible apply Q5)
           case hf=>exact FldI.ok
           case hp=>exact .a
           case hA=>exact had)
        | ((with_reducible apply Qax)
           case hx=>exact .a
           case hA=>exact had)
        | ((with_reducible apply Qaz)
           case ht=>exact UndI.ok
           case hz=>exact TokI.ok
           case hx=>exact .a
           case hi=>exact .a
           case hA=>exact had
           case h=>exact hy)
        | ((with_reducible apply Qgr)
           case ht=>exact UndI.ok
           case hz=>exact TokI.ok
           case hx=>exact .a
           case hi=>exact .a
           case hA=>exact had
           case h=>exact hy)
        | ((with_reducible apply Qiw)
           case hz=>exact TokI.ok
           case hp=>exact .a
           case hA=>exact had
           case h=>exact rfl)
        | ((with_reducible apply Qhm)
           case hf=>exact FldI.ok
           case hp=>exact .a
           case hA=>exact had
           case hne=>exact idx_ne hy)
        | ((with_reducible apply OpJ.glo);(with_reducible apply QmD)
           (intro s;apply s)
           case ha=>exact arg
           case hA=>exact had
           case k=>exact hy)
        | ((with_reducible apply QbA)
           case hz=>exact TokI.ok
           case hp=>exact .a
           case hA=>exact had
           case h=>exact rfl)
        | ((with_reducible apply Qho)
           case hz=>exact TokI.ok
           case hp=>exact .a
           case hA=>exact had
           case h=>exact hy
           case hf=>exact rfl)
        | ((with_reducible apply Qat)
           case hz=>exact TokV.ok
           case hp=>exact .a
           case hA=>exact had
           case h=>exact rfl)
        | ((with_reducible apply Qng)
           case hz=>exact TokV.ok
           case hp=>exact .a
           case hA=>exact had)))
    | ((with_reducible apply QF4.rm)
       (first
        | ((with_reducible apply QyK)
           case hz=>exact TokI.ok
           case h0=>exact ZokI.ok
           case hV=>exact mkd)
        | ((with_reducible apply QER)
           case hz=>exact TokI.ok
           case hx=>exact .a
           case hV=>exact mkd)
        | ((with_reducible apply Qs8)
           case ht=>exact UndI.ok
           case hz=>exact TokI.ok
           case hps=>exact prt
           case hlen=>exact rfl
           case h24=>exact leb'
           case hm=>exact leb'
           case hV=>exact mkd)
        | ((with_reducible apply QmD)
           (intro s;apply s)
           case ha=>exact arg
           case k=>exact hy
           case hV=>exact mkd)
        | ((with_reducible apply QyL)
           case ht=>exact UndI.ok
           case hz=>exact TokI.ok
           case h0=>exact ZokI.ok
           case hb=>exact leb'
           case hx=>exact .a
           case hy=>exact .a
           case h=>exact hy
           case hV=>exact mkd)))
    | ((with_reducible apply QF4.rs)
       (first
        | ((with_reducible apply QbP)
           case hz=>exact TokI.ok
           case hp=>exact .a
           case hx=>exact .a
           case hA=>exact had
           case h=>exact hy
           case hV=>exact mkd)
        | ((with_reducible apply Qmj)
           case hz=>exact TokI.ok
           case hp=>exact .a
           case hx=>exact .a
           case hA=>exact had
           case h0=>exact hy
           case h=>exact hy
           case hV=>exact mkd
           case hoff=>exact leb'
           case hu=>exact rfl)
        | ((with_reducible apply Qmg)
           case hz=>exact TokI.ok
           case hp=>exact .a
           case hx=>exact .a
           case hA=>exact had
           case hV=>exact mkd
           case hl=>exact leb')
        | ((with_reducible apply Qay)
           case hz=>exact TokI.ok
           case hp=>exact .a
           case hx=>exact .a
           case hA=>exact had
           case hV=>exact mkd
           case hl=>exact leb')))
    | ((with_reducible apply QF4.re)
       (first
        | ((with_reducible apply QmD)
           (intro s;apply s)
           case ha=>exact arg
           case hA=>exact had
           case k=>exact hy
           case hV=>exact mkd)
        | ((with_reducible apply Qbr)
           case ht=>exact UndI.ok
           case hz=>exact TokI.ok
           case hb=>exact leb'
           case hx=>exact .a
           case hy=>exact .a
           case hA=>exact had
           case hV=>exact mkd
           case h=>exact hy)))
    | ((with_reducible apply QF4.rt)
       (first
        | ((with_reducible apply Qg7)
           case hz=>exact TokV.ok
           case hp=>exact .a
           case hx=>exact .a
           case hU=>exact had
           case hA=>exact had
           case hV=>exact mkd
           case hl=>exact leb')
        | ((with_reducible apply QoK)
           case hz=>exact TokV.ok
           case hp=>exact .a
           case hx=>exact .a
           case hU=>exact had
           case hA=>exact had
           case hV=>exact mkd
           case hl=>exact leb')))
    | ((with_reducible apply QF4.rk);(with_reducible apply QmD)
       (intro s;apply s)
       case ha=>exact arg
       case hA=>exact had
       case k=>exact hy
       case hV=>exact mkd)
    | ((with_reducible apply QF4.rgu);exact rfl;exact Grd.a;intro b
       (first
        | ((with_reducible apply QcA)
           case hz=>exact TokI.ok
           case hp=>exact .a
           case hA=>exact had
           case h=>exact hy)
        | ((with_reducible apply Qg3)
           case ht=>exact UndI.ok
           case hx=>exact .a
           case hA=>exact had)
        | ((with_reducible apply Q5)
           case hf=>exact FldI.ok
           case hp=>exact .a
           case hA=>exact had)
        | ((with_reducible apply QbA)
           case hz=>exact TokI.ok
           case hp=>exact .a
           case hA=>exact had
           case h=>exact rfl)
        | ((with_reducible apply Qaz)
           case ht=>exact UndI.ok
           case hz=>exact TokI.ok
           case hx=>exact .a
           case hi=>exact .a
           case hA=>exact had
           case h=>exact hy)))
    | ((with_reducible apply QF4.rn);exact oj)
    | (apply Cu.ok (k:=69)
       repeat first
       | ((with_reducible apply QF4.rd);exact rfl;(intro v hv;rw[hv];exact oj))
       | apply Cu.nx
       fail_if_success apply id)):QF4 mks P ops V new i Γ o I Γ':=h
def runs {os:List Oper} {is:List Info} (h:RunM mks ns P ops V new i Γ os is:=by
  repeat first
    | with_reducible exact RunM.n
    | ((with_reducible apply stp);exact sto)
  fail_if_success apply id):RunM mks ns P ops V new i Γ os is:=h
def rnn:RunM mks ns P ops V new i Γ [] []:=RunM.n
structure Fuel (n:Nat):Prop
def Fuel.d {n:Nat} (b:Fuel (n+1)):Fuel n:=⟨⟩
section
variable {P:Program} {mks ns ns':List Nat} {ops:List Oper} {V:List Ver} {new:Nat->Value} {i i' j:Nat} {Γ Γ' Γ'':List (Nat×Ty)} {o:Oper} {os os':List Oper} {I:Info} {is is':List Info}
def pr (m:Nat) (k:RunM mks ns' P ops V new i' Γ' os' is') (h:Fuel m->RunM mks ns' P ops V new i' Γ' os' is'->RunM mks ns P ops V new i Γ os is:=by
  intro hm b
  repeat (replace hm:=hm.d;(with_reducible apply stp);exact sto)
  exact b):RunM mks ns P ops V new i Γ os is:=h ⟨⟩ k
def rx (f:Run P ops V new (i+1) Γ' os is->Run P ops V new i Γ (o::os) (I::is)) (m:Nat) (k:RunM mks ns' P ops V new i' Γ'' os' is')
    (h:Fuel m->RunM mks ns' P ops V new i' Γ'' os' is'->RunM mks ns P ops V new j Γ' os is:=by
  intro hm b
  repeat (replace hm:=hm.d;(with_reducible apply stp);exact sto)
  exact b):RunM mks (j::ns) P ops V new i Γ (o::os) (I::is):=λhx=>f (by
  have h:=h ⟨⟩ k hx.tl;rw[hx.one] at h;exact h)
end
def bk {β:Type} {x:Option α} {f:α->Option β} {a:α} {r:β} (h:x=some a) (k:x.bind f=some r):f a=some r:=by rw[h] at k;exact k
inductive Wk:List (Nat×Ty)->List (Nat×Ty)->Prop
  | nil:Wk [] []
  | cons {s:Nat} {T T':Ty} {l m:List (Nat×Ty)} (e:∀F w v,T.ok F w v->T'.ok F w v) (h:Wk l m):Wk ((s,T)::l) ((s,T')::m)
def Wk.facts {l m:List (Nat×Ty)} (h:Wk l m):∀p∈m,∃q∈l,q.1=p.1/\∀F w v,q.2.ok F w v->p.2.ok F w v:=by
  induction h with
  | nil=>intro p hp;cases hp
  | @cons s T T' l m e h b=>
    intro p hp;rcases Zp.1 hp with rfl | hp
    · exact⟨(s,T),by simp,rfl,e⟩
    · obtain⟨q,r,H,L⟩:=b p hp;exact⟨q,by simp[r],H,L⟩
def St.wk {M:Fr} {n:Nat} {a:Act} (h:St M w0 n Γ As a w) (k:Wk Γ Γ'):St M w0 n Γ' As a w:=⟨h.size,h.defers,h.grow,h.m0,h.own,h.fresh,h.apart,λp hp=>by obtain⟨q,b,e,r⟩:=k.facts p hp;rw[<-e];exact r _ _ _ (h.Xp q b)⟩
def wks {l m:List (Nat×Ty)} (h:Wk l m:=by
  repeat first
    | exact Wk.nil
    | (apply Wk.cons;(first | exact λ_ _ _ h=>h | exact λ_ _ _ h=>h.1 | exact λ_ _ _ h=>h.2))
  fail_if_success apply id):Wk l m:=h
def bts:Nat->Nat->Nat->List Nat
  | 0,_,_=>[]
  | f+1,n,i=>bif Nat.beq n 0 then [] else bif Nat.beq (n % 2) 1 then i::bts f (n / 2) (i+1) else bts f (n / 2) (i+1)
def dgs:Nat->Nat->List Nat
  | 0,_=>[]
  | f+1,n=>bif Nat.beq n 0 then [] else (n % 128 - 1)::dgs f (n / 128)
def pks (n:Nat):List Nat:=bif Nat.beq (n % 2) 0 then bts 128 (n / 2) 0 else dgs 64 (n / 2)
def mixL (l:List α):Nat->Nat->Nat->List α->List α
  | 0,_,_,_=>[]
  | f+1,n,q,m=>bif Nat.beq n 0 then [] else bif Nat.beq (n % 128) 1 then (match m with | []=>[] | a::m=>a::mixL l f (n / 128) q m) else bif Nat.beq (n % 128) 127 then l.drop q++mixL l f (n / 128) q m else match l[n % 128 - 2]? with | some a=>a::mixL l f (n / 128) (n % 128 - 1) m | none=>[]
section
variable {P:Program} {M:Fr} {w0:World} {n:Nat} {Γ Γ':List (Nat×Ty)} {As As':List Atom} {Q:Exit->Act->World->Prop} {K:Act->World->Prop} {c c1 c2:Code} {ops:List Oper} {is:List Info} {id:Nat} {draw:Bool}
def Qa (H:Nat) (L:Tr P M w0 n Γ' As c Q) (b:∀new,RunM [] lits P ops (verA As []) new 0 Γ ops is:=by intro new;exact runs)
    (r:chk ops is ((verA As []).map (·.ds)) (Γ.map (·.1)) As.length (verA As []).length n=true:=by kernel_rfl) (hA:∀new,Qfp (verA As []) is new=As:=by intro new;rfl)
    (O:∀new,Out (QbK (outG ops is Γ new) (pks H)) Γ':=by intro new;exact outs) (hm:P.follows .mixedOrders=true:=by exact mx):Tr P M w0 n Γ As (Code.seq (Code.region id ops.toArray draw) c) Q:=λa w s=>
  wp_seq (Qdq hm [] s (λnew=>b new Qol) r λnew W w' h=>L W w' (by have:=h.pick (pks H);rw[hA new,(O new).eq] at this;exact this))
def QJ (H:Nat) (L:To M w0 n Γ' As (Q .normal)) (b:∀new,RunM [] lits P ops (verA As []) new 0 Γ ops is:=by intro new;exact runs)
    (r:chk ops is ((verA As []).map (·.ds)) (Γ.map (·.1)) As.length (verA As []).length n=true:=by kernel_rfl) (hA:∀new,Qfp (verA As []) is new=As:=by intro new;rfl)
    (O:∀new,Out (QbK (outG ops is Γ new) (pks H)) Γ':=by intro new;exact outs) (hm:P.follows .mixedOrders=true:=by exact mx):Tr P M w0 n Γ As (Code.region id ops.toArray draw) Q:=λa w s=>
  Qdq hm [] s (λnew=>b new Qol) r λnew W w' h=>L W w' (by have:=h.pick (pks H);rw[hA new,(O new).eq] at this;exact this)
variable {Γn:(Nat->Value)->List (Nat×Ty)} {An:(Nat->Value)->List Atom}
def QU (b:List Ver) (O:List Nat) (L:Nat) (W:∀new,Tr P M w0 n (Γn new) (An new) c Q) (r:∀new,RunM (As.map (λ_=>0)++O) lits P ops (verA As b) new 0 Γ ops is:=by intro new;exact runs)
    (s:chk ops is ((verA As b).map (·.ds)) (Γ.map (·.1)) As.length (verA As b).length n=true:=by kernel_rfl) (hA:∀new,OutA (Qfp (verA As b) is new) (An new):=by intro new;exact outA)
    (X:∀new,Out (QbK (outG ops is Γ new) (pks L)) (Γn new):=by intro new;exact outs) (hm:P.follows .mixedOrders=true:=by exact mx):Tr P M w0 n Γ As (Code.seq (Code.region id ops.toArray draw) c) Q:=λa w H=>
  wp_seq (Qdq hm b H (λnew=>r new Qol) s λnew Z w' h=>W new Z w' (by have:=h.pick (pks L);rw[(hA new).eq,(X new).eq] at this;exact this))
def QaG (b:List Ver) (O:List Nat) (L:Nat) (W:∀new,To M w0 n (Γn new) (An new) (Q .normal)) (r:∀new,RunM (As.map (λ_=>0)++O) lits P ops (verA As b) new 0 Γ ops is:=by intro new;exact runs)
    (s:chk ops is ((verA As b).map (·.ds)) (Γ.map (·.1)) As.length (verA As b).length n=true:=by kernel_rfl) (hA:∀new,OutA (Qfp (verA As b) is new) (An new):=by intro new;exact outA)
    (X:∀new,Out (QbK (outG ops is Γ new) (pks L)) (Γn new):=by intro new;exact outs) (hm:P.follows .mixedOrders=true:=by exact mx):Tr P M w0 n Γ As (Code.region id ops.toArray draw) Q:=λa w H=>
  Qdq hm b H (λnew=>r new Qol) s λnew Z w' h=>W new Z w' (by have:=h.pick (pks L);rw[(hA new).eq,(X new).eq] at this;exact this)
def Qf (h:∀K:Act->World->Prop,(∀{Γ As},Tr P M w0 n Γ As c2 Q->To M w0 n Γ As K)->Tr P M w0 n Γ As c1 (Exit.then K Q)):Tr P M w0 n Γ As (.seq c1 c2) Q:=λa w H=>wp_seq_k λK b=>h K (λt a w H=>b a w (t a w H)) a w H
def Qu (h:To M w0 n Γ As (Q .normal)):Tr P M w0 n Γ As .skip Q:=λa w H=>wp_skip (h a w H)
def QQ (h:To M w0 n Γ As (Q (.exit id))):Tr P M w0 n Γ As (.exit id) Q:=λa w H=>wp_exit (h a w H)
def Qk (h:Tr P M w0 n Γ As c (Exit.inBlock id Q)):Tr P M w0 n Γ As (.block id c) Q:=λa w H=>wp_block (h a w H)
def Qo {s:Nat} {b:Bool} {x:Option α} {r:α} (h:(if b=true then x else y)=some r) (ht:b=true->x=some r->Tr P M w0 n ((s,tv (.bool b))::Γ) As c1 Q) (hf:b=false->y=some r->Tr P M w0 n ((s,tv (.bool b))::Γ) As c2 Q): Tr P M w0 n ((s,tv (.bool b))::Γ) As (.cond (.tmp s) c1 c2) Q:=λa w H=>wi H h (λe q=>ht e q a w H) (λe q=>hf e q a w H)
def QgJ (i:Nat) {s:Nat} {b:Bool} (ht:b=true->Tr P M w0 n Γ As c1 Q) (hf:b=false->Tr P M w0 n Γ As c2 Q) (hi:Γ[i]?=some (s,tv (.bool b)):=by rfl):Tr P M w0 n Γ As (.cond (.tmp s) c1 c2) Q:=λa w H=>QuB i H hi (λe=>ht e a w H) (λe=>hf e a w H)
def tTestN (i:Nat) {s:Nat} (ht:xs=[]->Tr P M w0 n Γ As c1 Q) (hf:Tr P M w0 n Γ As c2 Q) (hi:Γ[i]?=some (s,tnil xs false):=by rfl):Tr P M w0 n Γ As (.cond (.tmp s) c1 c2) Q:=λa w H=>Qt5 i H hi (λe=>ht e a w H) (hf a w H)
def tAtSt {a:Act} (H:St M w0 n Γ As a w) (k:Tr P M w0 n Γ As c Q):c.wp P Q a w:=k a w H
def tIfs {s:Nat} {b:Bool} {x:Option α} {r:α} (h:(if b=true then x else y)=some r) (W:Nat) (ht:b=true->x=some r->Tr P M w0 n ((s,tv (.bool b))::Γ') As c1 (Exit.then (λa w=>c2.wp P Q a w) Q)) (hf:b=false->y=some r->Tr P M w0 n ((s,tv (.bool b))::Γ') As c2 Q) (L:∀new,RunM [] lits P ops (verA As []) new 0 Γ ops is:=by intro new;exact runs) (O:chk ops is ((verA As []).map (·.ds)) (Γ.map (·.1)) As.length (verA As []).length n=true:=by kernel_rfl) (hA:∀new,Qfp (verA As []) is new=As:=by intro new;rfl) (X:∀new,Out (QbK (outG ops is Γ new) (pks W)) ((s,tv (.bool b))::Γ'):=by intro new;exact outs) (hm:P.follows .mixedOrders=true:=by exact mx):Tr P M w0 n Γ As (Code.seq (Code.seq (Code.region id ops.toArray draw) (Code.cond (.tmp s) c1 .skip)) c2) Q:=λa w H=>
  wp_seq (Qa W (Qo h ht λe q=>Qu λa w H=>hf e q a w H) L O hA X hm a w H)
def Q1 (f:∀a w,St M w0 n Γ As a w->St M w0 n Γ' As' a w) (k:Tr P M w0 n Γ'' As'' c Q) (e:Out Γ' Γ'':=by exact outs) (e2:OutA As' As'':=by exact outB):Tr P M w0 n Γ As c Q:=λa w H=>k a w (by have:=f a w H;rw[e.eq,e2.eq] at this;exact this)
def Qan (f:∀a w,St M w0 n Γ As a w->St M w0 n Γ' As' a w) (k:To M w0 n Γ'' As'' K) (e:Out Γ' Γ'':=by exact outs) (e2:OutA As' As'':=by exact outB):To M w0 n Γ As K:=λa w H=>k a w (by have:=f a w H;rw[e.eq,e2.eq] at this;exact this)
def QF6 (k:Tr P M w0 n Γ' As c Q) (e:Wk Γ Γ':=by exact wks):Tr P M w0 n Γ As c Q:=λa w H=>k a w (H.wk e)
def QN (k:To M w0 n Γ' As K) (b:Nat) (e:Wk (QbK Γ (pks b)) Γ':=by exact wks):To M w0 n Γ As K:=λa w H=>k a w ((H.pick (pks b)).wk e)
def Qx {b:τ->List (Nat×Ty)} {h:τ->List Atom} (k:∀p,C p->To M w0 n (b p) (h p) K) {p:τ} (e:C p) (r:Nat) (e1:Wk (QbK Γ (pks r)) (b p):=by exact wks) (e2:As=h p:=by rfl):To M w0 n Γ As K:=λa w H=>k p e a w (e2▸(H.pick (pks r)).wk e1)
def Q7 {b:τ->ν->List (Nat×Ty)} {h:τ->ν->List Atom} (k:∀p v,C p->To M w0 n (b p v) (h p v) K) (v:ν) {p:τ} (e:C p) (r:Nat) (e1:Wk (QbK Γ (pks r)) (b p v):=by exact wks) (e2:As=h p v:=by rfl):To M w0 n Γ As K:=λa w H=>k p v e a w (e2▸(H.pick (pks r)).wk e1)
def Qhq {h:Type} {b:τ->ν->h->List (Nat×Ty)} {r:τ->ν->h->List Atom} (k:∀p v u,C p->To M w0 n (b p v u) (r p v u) K) (v:ν) (u:h) {p:τ} (e:C p) (s:Nat) (e1:Wk (QbK Γ (pks s)) (b p v u):=by exact wks) (e2:As=r p v u:=by rfl):To M w0 n Γ As K:=λa w H=>k p v u e a w (e2▸(H.pick (pks s)).wk e1)
def Qaf {b:σ->List (Nat×Ty)} {O:σ->List Atom} (h:Qr body s0=some out) (Gn:σ->List (Nat×Ty)) (cg:Nat) (An:σ->List Atom) (ca:Nat) (X:Nat) (L:∀s o K,body s=some o->(∀r,o=.inr r->r=out)->(∀W,o=.inl W->To M w0 n (b W) (O W) K)->Tr P M w0 n (b s) (O s) c (Exit.then K Q)) (eg:∀s,Out (mixL Γ 64 cg 0 (Gn s)) (b s):=by intros;exact outs) (ea:∀s,OutA (mixL As 64 ca 0 (An s)) (O s):=by intros;exact outB) (e:Wk (QbK Γ (pks X)) (b s0):=by exact wks) (e2:As=O s0:=by rfl):Tr P M w0 n Γ As (.loop c) Q:=λa w H=>
  QbU body (λs a w=>St M w0 n (b s) (O s) a w) out s0 h (e2▸(H.pick (pks X)).wk e) λs o a w K Z hb ho hk=>L s o K hb ho (λW q a w H=>hk W a w q H) a w Z
def QaU {b:σ->τ->List (Nat×Ty)} {O:σ->τ->List Atom} (h:Qr body s0=some out) (Gn:σ->τ->List (Nat×Ty)) (cg:Nat) (An:σ->τ->List Atom) (ca:Nat) (v0:τ) (Z:Nat) (L:∀s v o K,body s=some o->(∀r,o=.inr r->r=out)->(∀W X,o=.inl W->To M w0 n (b W X) (O W X) K)->Tr P M w0 n (b s v) (O s v) c (Exit.then K Q)) (eg:∀s v,Out (mixL Γ 64 cg 0 (Gn s v)) (b s v):=by intros;exact outs) (ea:∀s v,OutA (mixL As 64 ca 0 (An s v)) (O s v):=by intros;exact outB) (e:Wk (QbK Γ (pks Z)) (b s0 v0):=by exact wks) (e2:As=O s0 v0:=by rfl):Tr P M w0 n Γ As (.loop c) Q:=λa w H=>
  QbU body (λs a w=>∃v,St M w0 n (b s v) (O s v) a w) out s0 h ⟨v0,e2▸(H.pick (pks Z)).wk e⟩ λs o a w K ⟨v,hI⟩ hb ho hk=>L s v o K hb ho (λW X q a w H=>hk W a w q ⟨X,H⟩) a w hI
def QpX {O:Type} {b:σ->τ->O->List (Nat×Ty)} {W:σ->τ->O->List Atom} (h:Qr body s0=some out) (Gn:σ->τ->O->List (Nat×Ty)) (cg:Nat) (An:σ->τ->O->List Atom) (ca:Nat) (v0:τ) (u0:O) (pk:Nat) (L:∀s v u o K,body s=some o->(∀r,o=.inr r->r=out)->(∀X Z u',o=.inl X->To M w0 n (b X Z u') (W X Z u') K)->Tr P M w0 n (b s v u) (W s v u) c (Exit.then K Q)) (eg:∀s v u,Out (mixL Γ 64 cg 0 (Gn s v u)) (b s v u):=by intros;exact outs) (ea:∀s v u,OutA (mixL As 64 ca 0 (An s v u)) (W s v u):=by intros;exact outB) (e:Wk (QbK Γ (pks pk)) (b s0 v0 u0):=by exact wks) (e2:As=W s0 v0 u0:=by rfl):Tr P M w0 n Γ As (.loop c) Q:=λa w H=>
  QbU body (λs a w=>∃v,∃u,St M w0 n (b s v u) (W s v u) a w) out s0 h ⟨v0,u0,e2▸(H.pick (pks pk)).wk e⟩ λs o a w K ⟨v,u,hI⟩ hb ho hk=>L s v u o K hb ho (λX Z u' q a w H=>hk X a w q ⟨Z,u',H⟩) a w hI
def tJ0 {Γo:List (Nat×Ty)} {Ao:List Atom} (Gn:List (Nat×Ty)) (cg:Nat) (An:List Atom) (ca:Nat) (K:Act->World->Prop) (b:To M w0 n Γo Ao K) (k:To M w0 n Γo Ao K->Tr P M w0 n Γ As c Q) (h:Out (mixL Γ 64 cg 0 Gn) Γo:=by exact outs) (r:OutA (mixL As 64 ca 0 An) Ao:=by exact outB):Tr P M w0 n Γ As c Q:=k b
section
variable {τ ν:Type} {Γo:τ->List (Nat×Ty)} {Ao:τ->List Atom} (Gn:τ->List (Nat×Ty)) (cg:Nat) (An:τ->List Atom) (ca:Nat) (K:Act->World->Prop)
def tJ1 (b:∀p,To M w0 n (Γo p) (Ao p) K) (k:(∀p,To M w0 n (Γo p) (Ao p) K)->Tr P M w0 n Γ As c Q) (h:∀p,Out (mixL Γ 64 cg 0 (Gn p)) (Γo p):=by intros;exact outs) (r:∀p,OutA (mixL As 64 ca 0 (An p)) (Ao p):=by intros;exact outB):Tr P M w0 n Γ As c Q:=k b
def tJp (C:τ->Prop) (b:∀p,C p->To M w0 n (Γo p) (Ao p) K) (k:(∀p,C p->To M w0 n (Γo p) (Ao p) K)->Tr P M w0 n Γ As c Q) (h:∀p,Out (mixL Γ 64 cg 0 (Gn p)) (Γo p):=by intros;exact outs) (r:∀p,OutA (mixL As 64 ca 0 (An p)) (Ao p):=by intros;exact outB):Tr P M w0 n Γ As c Q:=k b
end
def tJq {Γo:τ->ν->List (Nat×Ty)} {Ao:τ->ν->List Atom} (Gn:τ->ν->List (Nat×Ty)) (cg:Nat) (An:τ->ν->List Atom) (ca:Nat) (K:Act->World->Prop) (C:τ->Prop) (b:∀p v,C p->To M w0 n (Γo p v) (Ao p v) K) (k:(∀p v,C p->To M w0 n (Γo p v) (Ao p v) K)->Tr P M w0 n Γ As c Q) (h:∀p v,Out (mixL Γ 64 cg 0 (Gn p v)) (Γo p v):=by intros;exact outs) (r:∀p v,OutA (mixL As 64 ca 0 (An p v)) (Ao p v):=by intros;exact outB):Tr P M w0 n Γ As c Q:=k b
inductive QGA:(Exit->Act->World->Prop)->(Act->World->Prop)->Prop
  | ret {P:Program} {fn:Func} {M0:Blk} {E:List Atom} {w0:World} {N:Value->List Atom} {T:Value->Ty}:QGA (Ret P fn M0 E w0 N T) (Ret P fn M0 E w0 N T .ret)
  | retM {P:Program} {fn:Func} {M0:Blk} {E:List Atom} {w0:World} {N:Value->List Atom} {T:Value->Ty}:QGA (RetM P fn M0 E w0 N T) (RetM P fn M0 E w0 N T .ret)
  | thn {K K':Act->World->Prop} {Q:Exit->Act->World->Prop} (h:QGA Q K):QGA (Exit.then K' Q) K
  | blk {id:Nat} {K:Act->World->Prop} {Q:Exit->Act->World->Prop} (h:QGA Q K):QGA (Exit.inBlock id Q) K
  | ng {K:Act->World->Prop} {Q:Exit->Act->World->Prop} (h:QGA Q K):QGA (Exit.noGoto Q) K
def retOf {K:Act->World->Prop} {Q:Exit->Act->World->Prop} (h:QGA Q K:=by
  repeat first
    | with_reducible exact QGA.ret
    | with_reducible exact QGA.retM
    | with_reducible apply QGA.thn
    | with_reducible apply QGA.blk
    | with_reducible apply QGA.ng
  fail_if_success apply id):QGA Q K:=h
def tJr {Γo:τ->List (Nat×Ty)} {Ao:τ->List Atom} {K:Act->World->Prop} (Gn:τ->List (Nat×Ty)) (cg:Nat) (An:τ->List Atom) (ca:Nat) (C:τ->Prop) (b:∀p,C p->To M w0 n (Γo p) (Ao p) K) (k:(∀p,C p->To M w0 n (Γo p) (Ao p) K)->Tr P M w0 n Γ As c Q) (h:QGA Q K:=by exact retOf) (r:∀p,Out (mixL Γ 64 cg 0 (Gn p)) (Γo p):=by intros;exact outs) (s:∀p,OutA (mixL As 64 ca 0 (An p)) (Ao p):=by intros;exact outB):Tr P M w0 n Γ As c Q:=k b
def tScope (h:Tr P M w0 n Γ As c (Exit.noGoto Q)):Tr P M w0 n Γ As (.scope c) Q:=λa w H=>wp_scope_straight (h a w H)
def tLabel {l:Nat} (h:To M w0 n Γ As (Q .normal)):Tr P M w0 n Γ As (.label l) Q:=λa w H=>wp_label (h a w H)
def QES (h:Tr P M w0 n Γ As c2 Q):Tr P M w0 n Γ As (.cond (.const (.bool false)) c1 c2) Q:=λa w H=>Qxl (h a w H)
def Fe {f:FuncId} {b:Func} {c:Code} {T:Value->Ty} (hf:P.funcs[f]?=some b) (r:b.ntmps=n) (h:∀M0 M w,Qcz M0 E M->Tr P M w n Γ' E c (Ret P b M0 E w N T)) (hb:b.body=some c:=by rfl) (hl:Ts.length<=n:=by exact Nat.le_of_ble_eq_true rfl) (e:Out (zip [0,1,2,3,4,5,6,7,8,9,10,11,12,13,14,15] Ts) Γ':=by exact outs) (e2:ents Ts=zip [0,1,2,3,4,5,6,7,8,9,10,11,12,13,14,15] Ts:=by rfl):FnOk P f Ts E N T:=
  FnOk.enter hf hb r hl λM0 M w a hp H=>h M0 M w hp a w (by rw[e2,e.eq] at H;exact H)
def FeM {f:FuncId} {b:Func} {c:Code} {T:Value->Ty} (hf:P.funcs[f]?=some b) (r:b.ntmps=n) (h:∀M0 M w,Qcz M0 E M->Tr P M w n Γ' E c (RetM P b M0 E w N T)) (hb:b.body=some c:=by rfl) (hl:Ts.length<=n:=by exact Nat.le_of_ble_eq_true rfl) (e:Out (zip [0,1,2,3,4,5,6,7,8,9,10,11,12,13,14,15] Ts) Γ':=by exact outs) (e2:ents Ts=zip [0,1,2,3,4,5,6,7,8,9,10,11,12,13,14,15] Ts:=by rfl):FnOk P f Ts E N T:=
  FnOk.enterM hf hb r hl λM0 M w a hp H=>h M0 M w hp a w (by rw[e2,e.eq] at H;exact H)
def QF5 {b:Func} {T:Value->Ty} (h:To M w0 n Γ As (Ret P b M0 E w0 N T .ret)):To M w0 n Γ As (RetM P b M0 E w0 N T .ret):=λa w H=>Qmq (h a w H)
def QaA (h:To M w0 n Γ As (Q .ret)):Tr P M w0 n Γ As .ret Q:=λa w H=>wp_ret (h a w H)
section
variable {A B0 B1 B2 B3 B4 B5:Atom} {l:List Atom}
def at0:(A::l)[0]?=some A:=rfl
def at1:(B0::A::l)[1]?=some A:=rfl
def at2:(B0::B1::A::l)[2]?=some A:=rfl
def at3:(B0::B1::B2::A::l)[3]?=some A:=rfl
def at4:(B0::B1::B2::B3::A::l)[4]?=some A:=rfl
def at5:(B0::B1::B2::B3::B4::A::l)[5]?=some A:=rfl
def at6:(B0::B1::B2::B3::B4::B5::A::l)[6]?=some A:=rfl
end
def Qp {e r:α} (h:some e=some r) (k:e=r->To M w0 n Γ As (Q .ret)):Tr P M w0 n Γ As .ret Q:=QaA (k (Zn h))
def resOk {b:List ResultVar} (h:QeA P Γ As b Ts:=by
  repeat first
    | exact .nil
    | ((with_reducible apply QeA.tmp);exact .a)
    | ((with_reducible apply QeA.cell);exact TokI.ok;exact .a;(first | exact at0 | exact at1 | exact at2 | exact at3 | exact at4 | exact at5 | exact at6);exact rfl)
  fail_if_success apply id):QeA P Γ As b Ts:=h
def QiZ (P:Program) (Γ:List (Nat×Ty)) (As:List Atom) (h:Func) (T:Ty):Prop:=∃b Ts,h.results=b.toArray/\QeA P Γ As b Ts/\T=Qki Ts
def QiZ.one {H:Func} {b:List ResultVar} {r:Ty} (s:H.results=b.toArray) (L:T=r) (h:QeA P Γ As b [r]):QiZ P Γ As H T:=⟨b,[r],s,h,L⟩
def QiZ.tup {s:Func} {b:List ResultVar} (r:s.results=b.toArray) (H:T=ttup Ts) (hl:Qki Ts=ttup Ts) (h:QeA P Γ As b Ts):QiZ P Γ As s T:=⟨b,Ts,r,h,H.trans hl.symm⟩
def rets {b:Func} (h:QiZ P Γ As b T:=by
  first
  | (apply QiZ.one;exact rfl;exact rfl;exact resOk)
  | (apply QiZ.tup;exact rfl;exact rfl;exact rfl;exact resOk)):QiZ P Γ As b T:=h
def Qn {s:Func} {T:Value->Ty} (b:Qcz M0 E M) (h:QiZ P Γ As s (T undef):=by exact rets) (L:([]:List Atom)=N undef:=by rfl):To M w0 n Γ As (Ret P s M0 E w0 N T .ret):=λa w H=>by
  obtain⟨W,Ts,r,h,O⟩:=h;exact QfT undef [] b H r h rfl L O
def QaQ {L:Func} {T:Value->Ty} (x:Value) (b:List Nat) (r:Qcz M0 E M) (h:QiZ P Γ As L (T x):=by exact rets) (O:Qcb b=true:=by rfl) (W:b.filterMap (λi=>As[i]?)=N x:=by rfl):To M w0 n Γ As (Ret P L M0 E w0 N T .ret):=λa w H=>by
  obtain⟨Z,Ts,s,h,X⟩:=h;exact QfT x b r H s h O W X
def Qll {L:Func} {T:Value->Ty} (x:Value) (b:List Nat) (r:Qcz M0 E M) (h:QiZ P Γ As L (T x):=by exact rets) (O:Qcb b=true:=by rfl) (W:b.filterMap (λi=>As[i]?)=N x:=by rfl):To M w0 n Γ As (Ret P L M0 E w0 N T .normal):=λa w H=>by
  obtain⟨Z,Ts,s,h,X⟩:=h;exact QuE x b r H s h O W X
end

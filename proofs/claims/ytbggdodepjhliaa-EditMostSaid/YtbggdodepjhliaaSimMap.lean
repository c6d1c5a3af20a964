/- The logic's part of maps with integer keys: that a call owns, or only reads. No condition. -/
import Derived.Test.YtbggdodepjhliaaSimG
import Derived.MapKept
import Derived.Laws.Cover3
import Derived.Deep.AppendSrc
namespace Go.Sim
open Go.MapKept

section
variable {α:Type}
/-- What a list says of a key. -/
def mget:List (Int×α)→Int→Option α
 | [],_=>none
 | p::l,i=>if i=p.1 then some p.2 else mget l i
def mset:List (Int×α)→Int→α→List (Int×α)
 | [],i,y=>[(i,y)]
 | p::l,i,y=>if i=p.1 then (i,y)::l else p::mset l i y
theorem QT:∀(l:List (Int×α)) (i:Int) (y:α) (j:Int),mget (mset l i y) j=if j=i then some y else mget l j
 | [],i,y,j=>by simp[mset,mget]
 | p::l,i,y,j=>by
  unfold mset
  by_cases h:i=p.1
  ·rw[if_pos h]
   unfold mget
   by_cases hj:j=i
   ·rw[if_pos hj,if_pos hj]
   ·rw[if_neg hj,if_neg hj,if_neg (by rw[←h];exact hj)]
  ·rw[if_neg h]
   unfold mget
   by_cases hp:j=p.1
   ·rw[if_pos hp,if_pos hp,if_neg (by rw[hp];exact fun e=>h e.symm)]
   ·rw[if_neg hp,if_neg hp]
    exact QT l i y j
/-- A map that may be nil. -/
abbrev Mp (α:Type):=Option (List (Int×α))
def QC (m:Mp α) (i:Int):Option α:=m.bind fun l=>mget l i
def mput (m:Mp α) (i:Int) (y:α):Option (Mp α):=m.map fun l=>some (mset l i y)

/-- The entries hold what a list says. -/
structure Qca (R:Rep α) (F:Blk) (w:World) (es:Array MapEntry) (l:List (Int×α)):Prop where
 all:∀e∈es.toList,∃i x,e.key=.int .i64 i∧mget l i=some x∧(R.ty x).ok F w e.val
 has:∀i x,mget l i=some x→∃e∈es.toList,e.key=.int .i64 i
 one:∀(n n':Nat) (e e':MapEntry),es.toList[n]?=some e→es.toList[n']?=some e'→e.key=e'.key→n=n'
theorem Qca.keep {R:Rep α} {F F':Blk} {w w':World} {es:Array MapEntry} {l:List (Int×α)} (hF:∀k,F k→F' k) (hh:∀k,F k→w'.heap[k]?=w.heap[k]?) (h:Qca R F w es l):Qca R F' w' es l:=
 ⟨fun e he=>let⟨i,x,h1,h2,h3⟩:=h.all e he;⟨i,x,h1,h2,(R.ty x).keep hF hh h3⟩,h.has,h.one⟩
/-- A value is a map that holds what a list says. -/
def Qf9 (R:Rep α) (F:Blk) (w:World) (m:Mp α) (v:Value):Prop:=match m with | none=>v=.map none | some l=>∃b es c,v=.map (some b)∧w.heap[b]?=some (.map es c)∧Qca R F w es l
/-- A map that the call owns. -/
def omap (R:Rep α) (m:Mp α) (v:Value):Atom:=
 ⟨fun k=>v=.map (some k),fun F w=>Qf9 R F w m v,
  by
   intro F F' w w' hF hh hf h
   cases m with
   | none=>exact h
   | some l=>
    obtain⟨b,es,c,h1,h2,h3⟩:=h
    exact⟨b,es,c,h1,by rw[hf b h1];exact h2,h3.keep hF hh⟩⟩
/-- A map that is only read. -/
def tmap (R:Rep α) (m:Mp α):Ty:=
 ⟨fun F w v=>match m with | none=>v=.map none | some l=>∃b es c,v=.map (some b)∧F b∧w.heap[b]?=some (.map es c)∧Qca R F w es l,
  by
   intro F F' w w' v hF hh h
   cases m with
   | none=>exact h
   | some l=>
    obtain⟨b,es,c,h1,h2,h3,h4⟩:=h
    exact⟨b,es,c,h1,hF b h2,by rw[hh b h2];exact h3,h4.keep hF hh⟩⟩
theorem Qhl {R:Rep α} {m:Mp α}:One (tmap R m):=fun F w v h=>by
 cases m with
 | none=>have:v=.map none:=h;rw[this];rfl
 | some l=>obtain⟨b,es,c,h1,_⟩:=h;rw[h1];rfl
@[reducible] def rMp (R : Rep α) : Rep (Mp α) := ⟨fun m => [tmap R m],1,false,fun _ => rfl,fun m T hT F w v hv => by simp at hT; subst hT; exact Qhl F w v hv,fun _ => rfl⟩
end

section
variable {Γ:List (Nat×Ty)} {P:Program} {d:Option Tmp} {ty:TypeId} {pos:String} {af:Array Edge} {g:Option (Nat×Bool)} {x y q:Operand} {t kt et:TypeId} {α:Type} {R:Rep α} {bytes:Nat} {z:Value} {m:Mp α} {v:Value} {i:Int} {u:α}

theorem QbG (i:Int):IsKey (.int .i64) (.int .i64 i):=rfl
theorem Qca.keys {F:Blk} {w:World} {es:Array MapEntry} {l:List (Int×α)} (h:Qca R F w es l):∀e∈es.toList,IsKey (.int .i64) e.key:=fun e he=>by
 obtain⟨i,x,h1,_⟩:=h.all e he
 rw[h1]
 exact QbG i
/-- What a look finds. -/
theorem QdL {F:Blk} {w:World} (ht:P.underlying t=some (.map kt et)) (hk:P.underlying kt=some (.int .i64)) (hz:(zeroValue et).run P w=.ok z w) {x0:α} (hz0:(R.ty x0).ok F w z)
  (h:Qf9 R F w m v) (ok:Bool):
  ∃r,(Instr.lookup t v (.int .i64 i) ok).run P w=.ok (if ok=true then .tuple #[r,.bool (QC m i).isSome] else r) w∧(R.ty ((QC m i).getD x0)).ok F w r:=by
 cases m with
 | none=>
  have hv:v=.map none:=h
  subst hv
  refine⟨z,?_,hz0⟩
  have hck:(Instr.checkKey true 10000 kt (.int .i64 i)).run P w=.ok () w:=Go.MapKept.run_checkKey hk (QbG i) true 9999
  have hf:(Instr.findKey kt (.int .i64 i) ([]:List MapEntry)).run P w=.ok none w:=Go.MapKept.run_findKey hk rfl
  cases ok<;>simp[Instr.lookup,run_underlying ht,hck,hf,hz,QC,Result.andThen]
 | some l=>
  obtain⟨b,es,c,hv,hb,hm⟩:=h
  subst hv
  have hck:∀e,(Instr.checkKey e 10000 kt (.int .i64 i)).run P w=.ok () w:=fun e=>Go.MapKept.run_checkKey hk (QbG i) e 9999
  rcases findNow_spec (QbG i) es.toList 0 hm.keys with⟨h1,h2⟩ | ⟨j,e,h1,h2,h3⟩
  ·have hn:mget l i=none:=by
    cases hg:mget l i with
    | none=>rfl
    | some u=>
     obtain⟨e,he,hk⟩:=hm.has i u hg
     exact absurd hk (h2 e he)
   refine⟨z,?_,by show (R.ty ((mget l i).getD x0)).ok F w z;rw[hn];exact hz0⟩
   have e0:QC (some l) i=none:=hn
   cases ok<;>simp[Instr.lookup,run_underlying ht,Go.MapKept.run_getObj_map hb,hck,Go.MapKept.run_findKey hk h1,hz,e0,Result.andThen]
  ·obtain⟨i',u,h4,h5,h6⟩:=hm.all e (List.mem_of_getElem? h2)
   rw[h3] at h4
   simp only[Value.int.injEq,true_and] at h4
   subst h4
   refine⟨e.val,?_,by show (R.ty ((mget l i).getD x0)).ok F w e.val;rw[h5];exact h6⟩
   have e0:QC (some l) i=some u:=h5
   cases ok<;>simp[Instr.lookup,run_underlying ht,Go.MapKept.run_getObj_map hb,hck,Go.MapKept.run_findKey hk h1,e0,Result.andThen]
theorem QdM {w:World} (hz:TOk P et R bytes z):(zeroValue et).run P w=.ok z w:=by
 obtain⟨ti,hti,hzz,_⟩:=hz.info
 simp[zeroValue,typeInfo,hti,hzz]
theorem Qhm {x0:α} (ht:P.underlying t=some (.map kt et)) (hk:P.underlying kt=some (.int .i64)) (hz:TOk P et R bytes z) (hz0:∀F w,(R.ty x0).ok F w z) (hx:Fct Γ x (tv v)) (hi:Fct Γ y (tv (.int .i64 i))):
  OpJ P ⟨d,.lookup t x y false,ty,pos,af,g⟩ Γ [omap R m v] [] (fun _=>[]) (fun _=>R.ty ((QC m i).getD x0)):=
 Qay fun M w a hU he=>by
  have h1:=hx.val (by simp[Op.operands]) he
  have h2:=hi.val (by simp[Op.operands]) he
  obtain⟨r,hr,ho⟩:=QdL (i:=i) ht hk (QdM hz) (hz0 (free M w) w) (hU _ (List.mem_singleton.2 rfl)) false
  exact⟨r,by simp only[execOp,h1,h2,Sem.run_bind,hr,Result.andThen_ok,Sem.run_pure];rfl,ho⟩
theorem QeH {x0:α} (ht:P.underlying t=some (.map kt et)) (hk:P.underlying kt=some (.int .i64)) (hz:TOk P et R bytes z) (hz0:∀F w,(R.ty x0).ok F w z) (hx:Fct Γ x (tv v)) (hi:Fct Γ y (tv (.int .i64 i))):
  OpJ P ⟨d,.lookup t x y true,ty,pos,af,g⟩ Γ [omap R m v] [] (fun _=>[]) (fun _=>ttup [R.ty ((QC m i).getD x0),tv (.bool (QC m i).isSome)]):=
 Qay fun M w a hU he=>by
  have h1:=hx.val (by simp[Op.operands]) he
  have h2:=hi.val (by simp[Op.operands]) he
  obtain⟨r,hr,ho⟩:=QdL (i:=i) ht hk (QdM hz) (hz0 (free M w) w) (hU _ (List.mem_singleton.2 rfl)) true
  exact⟨_,by simp only[execOp,h1,h2,Sem.run_bind,hr,Result.andThen_ok,Sem.run_pure];rfl,[r,.bool (QC m i).isSome],rfl,.cons ho (.cons rfl .nil)⟩
theorem Qhn {F:Blk} {w:World} (h:(tmap R m).ok F w v):Qf9 R F w m v:=by
 cases m with
 | none=>exact h
 | some l=>obtain⟨b,es,c,h1,_,h2,h3⟩:=h;exact⟨b,es,c,h1,h2,h3⟩
theorem Qfc {x0:α} (ht:P.underlying t=some (.map kt et)) (hk:P.underlying kt=some (.int .i64)) (hz:TOk P et R bytes z) (hz0:∀F w,(R.ty x0).ok F w z) (hx:Fct Γ x (tmap R m)) (hi:Fct Γ y (tv (.int .i64 i))):
  OpJ P ⟨d,.lookup t x y false,ty,pos,af,g⟩ Γ [] [] (fun _=>[]) (fun _=>R.ty ((QC m i).getD x0)):=
 QE fun F w a he=>by
  have h1:=hx.use (by simp[Op.operands]) he
  have h2:=hi.val (by simp[Op.operands]) he
  obtain⟨r,hr,ho⟩:=QdL (i:=i) ht hk (QdM hz) (hz0 F w) (Qhn h1) false
  exact⟨r,by simp only[execOp,h2,Sem.run_bind,hr,Result.andThen_ok,Sem.run_pure];rfl,ho⟩
/-- A new map. -/
theorem Qd5 (R:Rep α):OpJ P ⟨d,.makeMap t none,ty,pos,af,g⟩ Γ [] [] (fun v=>[omap R (some []) v]) (fun v=>tv v):=by
 intro M w A hM _ _ _ _ _
 have hexec:(execOp A.eval (⟨d,.makeMap t none,ty,pos,af,g⟩:Oper)).run P w=.ok (.value (.map (some w.heap.size))) (w.alloc (.map #[] 0)):=rfl
 simp only[Does,hexec]
 have hb:=(heap_alloc w (.map #[] 0)).1
 refine⟨.map (some w.heap.size),(Step.alloc w _).mono (fun _ h=>h.elim),QaZ (fun k hk=>?_) ?_,rfl⟩
 ·have hk':Value.map (some w.heap.size)=.map (some k):=hk
  simp only[Value.map.injEq,Option.some.injEq] at hk'
  subst hk'
  exact⟨.inr (Nat.le_refl _),by simp⟩
 ·exact⟨w.heap.size,#[],0,rfl,hb,⟨fun e he=>(by simp at he),fun i u h=>(by cases h),fun n n' e e' h=>(by simp at h)⟩⟩
/-- A store into a map. -/
theorem QeI {m':Mp α} (ht:P.underlying t=some (.map kt et)) (hk:P.underlying kt=some (.int .i64)) (hx:Fct Γ x (tv v)) (hi:Fct Γ y (tv (.int .i64 i))) (hq:Fct Γ q (R.ty u)) (h:mput m i u=some m'):
  OpJ P ⟨d,.mapUpdate t x y q,ty,pos,af,g⟩ Γ [] [omap R m v] (fun _=>[omap R m' v]) (fun _=>tany):=by
 intro M w A hM _ hE _ _ he
 obtain⟨ho,hfp⟩:=hE _ (List.mem_singleton.2 rfl)
 have hgiv:=Qbe hE
 have h1:=hx.val (by simp[Op.operands]) he
 have h2:=hi.val (by simp[Op.operands]) he
 have h3:=hq.use (by simp[Op.operands]) he
 cases m with
 | none=>cases h
 | some l=>
  obtain rfl:some (mset l i u)=m':=by simpa[mput] using h
  obtain⟨b,es,c,hv,hb,hm⟩:=ho
  have hlt:b<w.heap.size:=(Array.getElem?_eq_some_iff.1 hb).1
  have key:∃es' c',(Instr.mapUpdate t v (.int .i64 i) (A.eval q)).run P w=.ok () { w with heap:=w.heap.setIfInBounds b (.map es' c') }∧Qca R (free M w) w es' (mset l i u):=by
   subst hv
   rcases findNow_spec (QbG i) es.toList 0 hm.keys with⟨f1,f2⟩ | ⟨j,e,f1,f2,f3⟩
   ·refine⟨es.push ⟨.int .i64 i,A.eval q,c⟩,c+1,by simp[Instr.mapUpdate,run_underlying ht,Go.MapKept.run_getObj_map hb,Go.MapKept.run_checkKey hk (QbG i),Go.MapKept.run_findKey hk f1,Go.MapKept.run_setObj_map _ hb,Result.andThen],⟨fun e he=>?_,fun j y hj=>?_,fun n n' e e' hn hn' hke=>?_⟩⟩
    ·simp only[Array.toList_push,List.mem_append,List.mem_singleton] at he
     rcases he with he | rfl
     ·obtain⟨k,y,g1,g2,g3⟩:=hm.all e he
      refine⟨k,y,g1,?_,g3⟩
      rw[QT,if_neg (fun e2=>f2 e he (by rw[g1,e2]))]
      exact g2
     ·exact⟨i,u,rfl,by rw[QT,if_pos rfl],h3⟩
    ·rw[QT] at hj
     by_cases e:j=i
     ·subst e
      exact⟨_,by rw[Array.toList_push];exact List.mem_append_right _ (List.mem_singleton_self _),rfl⟩
     ·rw[if_neg e] at hj
      obtain⟨e',he',hk'⟩:=hm.has j y hj
      exact⟨e',by rw[Array.toList_push];exact List.mem_append_left _ he',hk'⟩
    ·rw[Array.toList_push] at hn hn'
     have cases':∀(n:Nat) (e:MapEntry),(es.toList++[⟨.int .i64 i,A.eval q,c⟩])[n]?=some e→es.toList[n]?=some e∨(n=es.toList.length∧e.key=.int .i64 i):=fun n e h=>by
      rw[List.getElem?_append] at h
      split at h
      ·exact .inl h
      ·rename_i hge
       rw[List.getElem?_singleton] at h
       split at h
       ·exact .inr ⟨by omega,by cases h;rfl⟩
       ·cases h
     rcases cases' n e hn with a | ⟨a1,a2⟩<;>rcases cases' n' e' hn' with b | ⟨b1,b2⟩
     ·exact hm.one n n' e e' a b hke
     ·exact absurd (hke.trans b2) (f2 e (List.mem_of_getElem? a))
     ·exact absurd (hke.symm.trans a2) (f2 e' (List.mem_of_getElem? b))
     ·omega
   ·have hj:es[j]?=some e:=by simpa using f2
    have hmod:∀n:Nat,(es.modify j fun e=>{ e with key:=.int .i64 i,val:=A.eval q }).toList[n]?=if n=j then some { e with key:=.int .i64 i,val:=A.eval q } else es.toList[n]?:=fun n=>by
     rw[Array.getElem?_toList,Array.getElem?_modify]
     by_cases hn:n=j
     ·subst hn
      rw[if_pos rfl,if_pos rfl,hj]
      rfl
     ·rw[if_neg (fun h=>hn h.symm),if_neg hn,Array.getElem?_toList]
    have kk:∀(n:Nat) (e':MapEntry),(es.modify j fun e=>{ e with key:=.int .i64 i,val:=A.eval q }).toList[n]?=some e'→∃e0,es.toList[n]?=some e0∧e0.key=e'.key∧(n=j→e'.val=A.eval q)∧(n≠j→e'=e0):=fun n e' h=>by
     rw[hmod] at h
     by_cases hn:n=j
     ·rw[if_pos hn] at h
      cases h
      exact⟨e,by rw[hn];exact f2,f3,fun _=>rfl,fun h=>(h hn).elim⟩
     ·rw[if_neg hn] at h
      exact⟨e',h,rfl,fun h=>(hn h).elim,fun _=>rfl⟩
    refine⟨es.modify j fun e=>{ e with key:=.int .i64 i,val:=A.eval q },c,by simp[Instr.mapUpdate,run_underlying ht,Go.MapKept.run_getObj_map hb,Go.MapKept.run_checkKey hk (QbG i),Go.MapKept.run_findKey hk f1,hj,f3,run_keyThatStays (QbG i),Go.MapKept.run_setObj_map _ hb,Result.andThen],⟨fun e' he'=>?_,fun k y hk2=>?_,fun n n' e1 e2 h1 h2 hke=>?_⟩⟩
    ·obtain⟨n,hn⟩:=List.mem_iff_getElem?.1 he'
     obtain⟨e0,g1,g2,g3,g4⟩:=kk n e' hn
     obtain⟨k,y,q1,q2,q3⟩:=hm.all e0 (List.mem_of_getElem? g1)
     by_cases hnj:n=j
     ·have:e0=e:=by rw[hnj,f2] at g1;exact (Option.some.inj g1).symm
      subst this
      have hki:k=i:=by rw[f3] at q1;simpa using q1.symm
      exact⟨i,u,by rw[←g2,f3],by rw[QT,if_pos rfl],by rw[g3 hnj];exact h3⟩
     ·have hne:k≠i:=fun e2=>hnj (hm.one n j e0 e g1 f2 (by rw[q1,f3,e2]))
      exact⟨k,y,by rw[←g2];exact q1,by rw[QT,if_neg hne];exact q2,by rw[g4 hnj];exact q3⟩
    ·have old:∀e0∈es.toList,∃e'∈(es.modify j fun e=>{ e with key:=.int .i64 i,val:=A.eval q }).toList,e'.key=e0.key:=fun e0 he0=>by
      obtain⟨n,hn⟩:=List.mem_iff_getElem?.1 he0
      by_cases hnj:n=j
      ·have:e0=e:=by rw[hnj,f2] at hn;exact (Option.some.inj hn).symm
       subst this
       exact⟨_,List.mem_of_getElem? (by rw[hmod,if_pos hnj]),f3.symm⟩
      ·exact⟨e0,List.mem_of_getElem? (i:=n) (by rw[hmod,if_neg hnj];exact hn),rfl⟩
     rw[QT] at hk2
     by_cases e2:k=i
     ·subst e2
      obtain⟨e',g1,g2⟩:=old e (List.mem_of_getElem? f2)
      exact⟨e',g1,by rw[g2];exact f3⟩
     ·rw[if_neg e2] at hk2
      obtain⟨e0,he0,hk0⟩:=hm.has k y hk2
      obtain⟨e',g1,g2⟩:=old e0 he0
      exact⟨e',g1,by rw[g2];exact hk0⟩
    ·obtain⟨a1,b1,c1,_⟩:=kk n e1 h1
     obtain⟨a2,b2,c2,_⟩:=kk n' e2 h2
     exact hm.one n n' a1 a2 b1 b2 (by rw[c1,c2];exact hke)
  obtain⟨es',c',hrun,hmi⟩:=key
  have hexec:(execOp A.eval (⟨d,.mapUpdate t x y q,ty,pos,af,g⟩:Oper)).run P w=.ok .skip { w with heap:=w.heap.setIfInBounds b (.map es' c') }:=by
   simp only[execOp,h1,h2,Sem.run_bind,hrun,Result.andThen_ok,Sem.run_pure]
  simp only[Does,hexec]
  have hset:=heap_set (o':=.map es' c') hb
  have hstep:Step (QK [omap R (some l) v]) w { w with heap:=w.heap.setIfInBounds b (.map es' c') }:=⟨rfl,rfl,rfl,by simp,fun k _ hnk=>hset.2 k (fun e=>hnk (Q8.2 (by rw[e];exact hv)))⟩
  refine⟨undef,hstep,QaZ (fun k hk=>?_) ?_,trivial⟩
  ·have hkb:v=.map (some k):=hk
   refine⟨.inl (Q8.2 hkb),?_⟩
   rw[hv] at hkb
   simp only[Value.map.injEq,Option.some.injEq] at hkb
   subst hkb
   simpa using hlt
  ·refine⟨b,es',c',hv,hset.1,?_⟩
   refine Qca.keep (fun k hk=>?_) (fun k hk=>hset.2 k (fun e=>?_)) hmi
   ·refine QaX hstep.size hgiv (fun B hB j hj=>?_) hk
    obtain rfl:=List.mem_singleton.1 hB
    exact .inl (Q8.2 hj)
   ·exact hk.2 (hfp b hv |> fun h=>by rw[e];exact h)
theorem QeJ {F F':Blk} {w:World} (h:(omap R m v).ok F w) (hF:∀k,F k→F' k) (hfp:∀k,(omap R m v).fp k→F' k):(tmap R m).ok F' w v:=by
 cases m with
 | none=>exact h
 | some l=>
  obtain⟨b,es,c,h1,h2,h3⟩:=h
  exact⟨b,es,c,h1,hfp b h1,h2,h3.keep hF (fun _ _=>rfl)⟩
theorem Qab.map {U:List Atom} (h:Fct Γ x (tv v)) (hU:omap R m v∈U):Qab Γ U x (tmap R m):=by
 intro F F' w a hF hA h0
 have hv:a.eval x=v:=h F w a h0
 obtain⟨hok,hfp⟩:=hA _ hU
 rw[hv]
 exact QeJ hok hF hfp
theorem Fct.nilM:Fct Γ (.const (.map none)) (tmap R none):=fun _ _ _ _=>rfl
end
section
variable {M:Fr} {w0 w:World} {n:Nat} {Γ:List (Nat×Ty)} {As:List Atom} {a:Act} {α:Type} {R:Rep α} {m:Mp α} {v:Value}
/-- A map is only read from now on. -/
theorem St.shareM {s:Nat} (i:Nat) (h:St M w0 n Γ (omap R m v::As) a w) (hi:Γ[i]?=some (s,tv v)):St M w0 n ((s,tmap R m)::Γ) As a w:=by
 have hs:=h.sub (List.sublist_cons_self (omap R m v) As)
 refine⟨hs.size,hs.defers,hs.grow,hs.m0,hs.own,hs.fresh,hs.apart,fun p hp=>?_⟩
 rcases List.mem_cons.1 hp with rfl | hp
 ·have hv:get a s=v:=h.slots (s,tv v) (List.mem_of_getElem? hi)
  show (tmap R m).ok _ _ (get a s)
  rw[hv]
  refine QeJ (h.own (omap R m v) (by simp)) (QY (fun k ⟨A,hA,hk⟩=>⟨A,by simp[hA],hk⟩)) (fun k hk=>?_)
  have hfr:=h.fresh _ (by simp) k hk
  refine⟨hfr.2,?_⟩
  rintro (hm | ⟨A,hA,hkA⟩)
  ·have:=h.m0 k hm
   rcases hfr.1 with hb | hb
   ·exact this.2 hb
   ·omega
  ·exact (List.pairwise_cons.1 h.apart).1 A hA k hk hkA
 ·exact hs.slots p hp
end

end Go.Sim

namespace Go.Sim

section
variable {α:Type} {R:Rep α} {e:TypeId}
/-- A slice that the call owns, wherever it begins. -/
def ownq (R:Rep α) (e:TypeId) (xs:List α) (v:Value):Atom:=
 ⟨fun k=>v.ownBlock=some k,fun F w=>(v=.slice none 0 0∧xs=[])∨∃b off cap cur,v=.slice (some ⟨b,off,none⟩) xs.length cap∧w.heap[b]?=some (.cells cur e (0,0))∧xs.length≤cap∧cap≤maxLen∧off+cap * R.n≤cur.size∧Qk (xs.flatMap R.cs) F w ((cur.toList.drop off).take (xs.length * R.n)),
  by
   intro F F' w w' hF hh hf h
   rcases h with h | ⟨b,off,cap,cur,h1,h2,h3,h4,h5,h6⟩
   ·exact .inl h
   ·exact .inr ⟨b,off,cap,cur,h1,by rw[hf b (by rw[h1];rfl)];exact h2,h3,h4,h5,h6.keep hF hh⟩⟩
theorem QfI {xs:List α} {v:Value} {F:Blk} {w:World} (h:(own R e xs v).ok F w):(ownq R e xs v).ok F w:=by
 rcases QaI h with⟨hv,hx⟩ | ⟨b,cap,cur,hv,hb,h1,h2,h3,h4⟩
 ·exact .inl ⟨hv,hx⟩
 ·exact .inr ⟨b,0,cap,cur,hv,hb,h1,h2,by omega,by simpa using h4⟩
theorem Qfd {xs:List α} {v:Value} {F:Blk} {w:World} (h:(ownq R e xs v).ok F w) (hx:xs≠[]):∃b off cap,v=.slice (some ⟨b,off,none⟩) xs.length cap∧Row (xs.flatMap R.cs) F w b off:=by
 rcases h with⟨_,h⟩ | ⟨b,off,cap,cur,h1,h2,h3,h4,h5,h6⟩
 ·exact (hx h).elim
 ·refine⟨b,off,cap,h1,fun j T hT=>?_⟩
  have hj:j<((cur.toList.drop off).take (xs.length * R.n)).length:=by rw[h6.1];exact (List.getElem?_eq_some_iff.1 hT).1
  refine⟨((cur.toList.drop off).take (xs.length * R.n))[j],?_,h6.2 j T _ hT (List.getElem?_eq_getElem hj)⟩
  have hj2:off+j<cur.size:=by simp at hj;omega
  simp[World.cell?,h2,hj2]
end

section
variable {Γ:List (Nat×Ty)} {P:Program} {d:Option Tmp} {ty:TypeId} {pos:String} {af:Array Edge} {g:Option (Nat×Bool)} {x y:Operand} {t e e':TypeId} {α:Type} {R:Rep α} {bytes:Nat} {z:Value} {xs ys:List α} {v:Value} {k:IntKind} {i:Int} {u:α}

theorem QhS (ht:P.underlying t=some (.slice e)) (hx:Fct Γ x (tv v)):OpJ P ⟨d,.call { callee:=.builtin .len,args:=#[x],argTypes:=#[t] },ty,pos,af,g⟩ Γ [ownq R e' xs v] [] (fun _=>[]) (fun _=>tv (.int .i64 xs.length)):=
 Qay fun M w a hU he=>by
  have hl:∃ad cap,v=.slice ad xs.length cap:=by
   rcases hU _ (List.mem_singleton.2 rfl) with⟨h,h2⟩ | ⟨b,off,cap,cur,h,_⟩
   ·exact⟨none,0,by rw[h2];exact h⟩
   ·exact⟨_,cap,h⟩
  obtain⟨ad,cap,hv⟩:=hl
  have:=hx.val (by simp[Op.operands,Call.operands]) he
  exact⟨_,by simp[execOp,resolve,invoke,builtin,Builtin.len_,run_underlying ht,this,hv,goInt],rfl⟩
theorem QgA (ht:P.underlying t=some (.slice e)) (hz:TOk P e R bytes z) (hx:Fct Γ x (tv v)) (hi:Fct Γ y (tv (.int k i))) (h:idx xs i=some u):
  OpJ P ⟨d,.indexAddr t x y,ty,pos,af,g⟩ Γ [ownq R e' xs v] [] (fun _=>[]) (fun _=>tv (QbA v (i.toNat * R.n))):=
 Qay fun M w a hU he=>by
  have hv:=hx.val (by simp[Op.operands]) he
  have h2:=hi.val (by simp[Op.operands]) he
  unfold idx at h
  split at h
  ·rename_i h0
   have hlt:i.toNat<xs.length:=(List.getElem?_eq_some_iff.1 h).1
   obtain⟨b,off,cap,hvv,_⟩:=Qfd (hU _ (List.mem_singleton.2 rfl)) (fun e=>by rw[e] at hlt;simp at hlt)
   refine⟨_,?_,rfl⟩
   subst hvv
   simp only[execOp,hv,h2,Sem.run_bind,Qc8 ht hz w rfl h0 (show i<(xs.length:Int) by omega),Result.andThen_ok,Sem.run_pure,QbA,QV]
  ·cases h
theorem Qho (hz:TOk P t R bytes z) (hp:Fct Γ x (tv (QbA v (i.toNat * R.n)))) (h:idx xs i=some u):OpJ P ⟨d,.load t x,ty,pos,af,g⟩ Γ [ownq R e' xs v] [] (fun _=>[]) (fun _=>R.ty u):=
 Qay fun M w a hU he=>by
  have hv:=hp.val (by simp[Op.operands]) he
  unfold idx at h
  split at h
  ·have hlt:i.toNat<xs.length:=(List.getElem?_eq_some_iff.1 h).1
   obtain⟨b,off,cap,hvv,hrow⟩:=Qfd (hU _ (List.mem_singleton.2 rfl)) (fun e=>by rw[e] at hlt;simp at hlt)
   subst hvv
   obtain⟨v',hrun,hty⟩:=Qbj hz (hrow.elem h)
   exact⟨v',by simp only[execOp,hv,QbA,QV,Sem.run_bind,hrun,Result.andThen_ok,Sem.run_pure],hty⟩
  ·cases h
/-- The rest of a queue. -/
theorem Qhp (ht:P.underlying t=some (.slice e)) (hz:TOk P e R bytes z) (hx:Fct Γ x (tv v)) (hi:Fct Γ y (tv (.int k i))) (h:sub xs i xs.length=some ys):
  OpJ P ⟨d,.slice t x (some y) none none,ty,pos,af,g⟩ Γ [] [ownq R e' xs v] (fun v'=>[ownq R e' ys v']) (fun v'=>tv v'):=by
 intro M w A hM _ hE _ _ he
 obtain⟨ho,hfp⟩:=hE _ (List.mem_singleton.2 rfl)
 have hxv:=hx.val (by simp[Op.operands]) he
 have hyv:=hi.val (by simp[Op.operands]) he
 obtain⟨c0,c1,c2,hy,hl⟩:=sub_eq h
 obtain⟨ti,hti,_,hs,_⟩:=hz.info
 have hil:i.toNat≤xs.length:=by omega
 have hyd:ys=xs.drop i.toNat:=by rw[hy];exact List.take_of_length_le (by simp)
 have hlt:∀k,(ownq R e' xs v).fp k→k<w.heap.size:=fun k hk=>by
  rcases ho with⟨hv,_⟩ | ⟨b,off,cap,cur,hv,hb,_⟩
  ·rw[hv] at hk;cases hk
  ·rw[hv] at hk
   have:b=k:=by simpa[ownq,Value.ownBlock] using hk
   rw[←this]
   exact (Array.getElem?_eq_some_iff.1 hb).1
 have key:∃v',(execOp A.eval (⟨d,.slice t x (some y) none none,ty,pos,af,g⟩:Oper)).run P w=.ok (.value v') w∧(∀k,(ownq R e' ys v').fp k→(ownq R e' xs v).fp k)∧(ownq R e' ys v').ok (free M w) w:=by
  rcases ho with⟨hv,hx0⟩ | ⟨b,off,cap,cur,hv,hb,h1,h2,h3,h4⟩
  ·have hi0:i=0:=by rw[hx0] at hil;simp at hil;omega
   subst hv
   subst hi0
   refine⟨.slice none 0 0,?_,fun k hk=>hk,.inl ⟨rfl,by rw[hyd,hx0];rfl⟩⟩
   simp[execOp,Instr.sliceAt,run_underlying ht,Instr.slice,hxv,hyv,Instr.sliceBounds,run_sliceBound,sizeOf,typeInfo,hti,hs]
  ·subst hv
   have hyl:ys.length=xs.length - i.toNat:=by rw[hl];omega
   have hb1:(Instr.sliceBounds true xs.length cap (some (.int k i)) none none).run P w=.ok (i.toNat,xs.length,cap) w:=by
    simp only[Instr.sliceBounds,Sem.run_bind,Sem.run_pure,Result.andThen_ok,run_sliceBound w k i xs.length _ c0 (by omega)]
   refine⟨.slice (if cap=i.toNat then some ⟨b,off,none⟩ else some ⟨b,off+i.toNat * R.n,none⟩) (xs.length - i.toNat) (cap - i.toNat),?_,?_,?_⟩
   ·simp[execOp,Instr.sliceAt,run_underlying ht,Instr.slice,hxv,hyv,hb1,sizeOf,typeInfo,hti,hs,QV]
   ·intro k hk
    by_cases hc:cap=i.toNat
    ·rw[if_pos hc] at hk;exact hk
    ·rw[if_neg hc] at hk;exact hk
   ·by_cases hc:cap=i.toNat
    ·rw[if_pos hc]
     have:ys=[]:=List.length_eq_zero_iff.1 (by omega)
     refine .inr ⟨b,off,cap - i.toNat,cur,by rw[hyl],hb,by omega,by omega,by rw[hc];simp;omega,?_⟩
     rw[this]
     exact⟨by simp,fun j T u hT=>by simp at hT⟩
    ·rw[if_neg hc]
     have hmul:(cap - i.toNat) * R.n+i.toNat * R.n=cap * R.n:=by rw[←Nat.add_mul];congr 1;omega
     refine .inr ⟨b,off+i.toNat * R.n,cap - i.toNat,cur,by rw[hyl],hb,by omega,by omega,by omega,?_⟩
     have e1:ys.flatMap R.cs=(xs.flatMap R.cs).drop (i.toNat * R.n):=by
      rw[hyd]
      have:=Row.flatMap_sub R xs i.toNat (xs.length - i.toNat) (by omega)
      rw[List.take_of_length_le (by simp)] at this
      rw[this,List.take_of_length_le]
      rw[List.length_drop,QB,←Nat.sub_mul]
      exact Nat.le_refl _
     rw[e1]
     have hmx:(xs.length - i.toNat) * R.n+i.toNat * R.n=xs.length * R.n:=by rw[←Nat.add_mul];congr 1;omega
     refine⟨?_,fun j T u hT hu=>?_⟩
     ·have:=h4.1
      rw[List.length_take,List.length_drop] at this ⊢
      rw[List.length_drop,←this,hyl]
      simp
      rw[QB] at this
      omega
     ·rw[List.getElem?_drop] at hT
      refine h4.2 (i.toNat * R.n+j) T u hT ?_
      rw[List.getElem?_take] at hu ⊢
      split at hu
      ·rename_i hjl
       rw[if_pos (by rw[hyl] at hjl;omega),List.getElem?_drop]
       rw[List.getElem?_drop] at hu
       rw[←Nat.add_assoc];exact hu
      ·cases hu
 obtain⟨v',hexec,hf2,hok⟩:=key
 simp only[Does,hexec]
 refine⟨v',Step.refl _ _,QaZ (fun k hk=>⟨.inl (Q8.2 (hf2 k hk)),hlt k (hf2 k hk)⟩) ?_,rfl⟩
 refine Atom.keep _ (fun k hk=>?_) (fun _ _=>rfl) (fun _ _=>rfl) hok
 refine QaX (Nat.le_refl _) (Qbe hE) (fun B hB j hj=>?_) hk
 obtain rfl:=List.mem_singleton.1 hB
 exact .inl (Q8.2 (hf2 j hj))
theorem QcZ (b:Nat):∀(vs:List Value) (o:Nat) (w:World) (cur:Array Value),w.heap[b]?=some (.cells cur e (0,0))→o+vs.length≤cur.size→
  ∃cur':Array Value,(w.setCells b o vs).heap[b]?=some (.cells cur' e (0,0))∧cur'.toList=cur.toList.take o++vs++cur.toList.drop (o+vs.length)∧(∀k,k≠b→(w.setCells b o vs).heap[k]?=w.heap[k]?)∧(w.setCells b o vs).heap.size=w.heap.size∧(w.setCells b o vs).os=w.os∧(w.setCells b o vs).tape=w.tape∧(w.setCells b o vs).output=w.output
 | [],o,w,cur,hb,_=>⟨cur,hb,by simp,fun _ _=>rfl,rfl,rfl,rfl,rfl⟩
 | u::vs,o,w,cur,hb,hl=>by
  rw[List.length_cons] at hl
  have h1:(w.setCell ⟨b,o,none⟩ u).heap[b]?=some (.cells (cur.setIfInBounds o u) e (0,0)):=by
   simp[World.setCell,Array.getElem?_modify,hb]
  have h2:∀k,k≠b→(w.setCell ⟨b,o,none⟩ u).heap[k]?=w.heap[k]?:=fun k hk=>by
   simp[World.setCell,Array.getElem?_modify,Ne.symm hk]
  obtain⟨cur',g1,g2,g3,g4,g5,g6,g7⟩:=QcZ b vs (o+1) (w.setCell ⟨b,o,none⟩ u) (cur.setIfInBounds o u) h1 (by simp;omega)
  refine⟨cur',g1,?_,fun k hk=>(g3 k hk).trans (h2 k hk),g4.trans (by simp[World.setCell]),g5,g6,g7⟩
  rw[g2,Array.toList_setIfInBounds]
  have e1:(cur.toList.set o u).take (o+1)=cur.toList.take o++[u]:=by
   rw[List.take_add_one,List.take_set_of_le (Nat.le_refl _),List.getElem?_set_self (by simp;omega)]
   rfl
  have e2:(cur.toList.set o u).drop (o+1+vs.length)=cur.toList.drop (o+(vs.length+1)):=by
   rw[List.drop_set_of_lt (by omega)]
   congr 1;omega
  rw[e1,e2]
  simp
theorem Qga (ht:P.underlying t=some (.slice e)) (hz:TOk P e R bytes z) (hb:bytes≤2048) (hx:Fct Γ x (tv v)) (hy:Fct Γ y (tsl R ys)) (hne:ys≠[]) (h:rm (xs.length+ys.length)=some ()):
  OpJ P ⟨d,.call { callee:=.builtin .append,args:=#[x,y],argTypes:=#[t,t] },ty,pos,af,g⟩ Γ [] [ownq R e xs v] (fun v'=>[ownq R e (xs++ys) v']) (fun v'=>tv v'):=by
 intro M w A hM _ hE _ _ he
 obtain⟨ho,hfp⟩:=hE _ (List.mem_singleton.2 rfl)
 have hgiv:=Qbe hE
 have h1:=hx.val (by simp[Op.operands,Call.operands]) he
 obtain⟨ad,c,h2,_,hr⟩:=hy.use (by simp[Op.operands,Call.operands]) he
 obtain⟨ti,hti,hzz,hs,hbb⟩:=hz.info
 have hroom:xs.length+ys.length≤68719476736:=by unfold rm at h;split at h<;>first | assumption | cases h
 have key:∃v' w',(Builtin.append_ #[t,t] ty #[v,.slice ad ys.length c]).run P w=.ok v' w'∧Step (ownq R e xs v).fp w w'∧(∀k,(ownq R e (xs++ys) v').fp k→((ownq R e xs v).fp k∨w.heap.size≤k)∧k<w'.heap.size)∧(ownq R e (xs++ys) v').ok (fun k=>k<w.heap.size∧¬M k) w':=by
  have hF:∀k,free M w k→k<w.heap.size∧¬(ownq R e xs v).fp k:=fun k hk=>⟨hk.1,fun hf=>hk.2 (hfp k hf)⟩
  rcases ho with⟨hv,hx0⟩ | ⟨gb,off,cap,cur,hv,hbk,c1,c2,c3,c4⟩
  ·have ho':(own R e xs v).ok (free M w) w:=⟨[],⟨by rw[hx0];simp,.inl ⟨hv,by rw[hx0];rfl⟩⟩,by rw[hx0];exact .nil⟩
   obtain⟨v',w',hrun,hstep,hfp',hok⟩:=QdX (ty:=ty) (c:=c) (F:=free M w) (F':=fun k=>k<w.heap.size∧¬M k) ht hz hb ho' hF (fun k hk=>hk)
    (fun hne=>let⟨b,off,ha,_,hrow⟩:=hr hne;⟨b,off,ha,hrow⟩) h
   exact⟨v',w',hrun,hstep,hfp',QfI hok⟩
  ·obtain⟨b,off2,ha,_,hrow⟩:=hr hne
   subst ha
   subst hv
   obtain⟨news,hcn,hcell⟩:=QdH _ _ hrow
   have hnl:news.length=ys.length * ti.size:=by rw[hcn.1,QB,hs]
   have hnews:∀j u,news[j]?=some u→w.cell? ((⟨b,off2,none⟩:Addr).add j)=some u:=fun j u hu=>by rw[QV];exact hcell j u hu
   have hone:∀u∈news,u.oneCell'=true:=by
    intro u hu
    obtain⟨j,hj⟩:=List.mem_iff_getElem?.1 hu
    have hjl:j<(ys.flatMap R.cs).length:=by rw[←hcn.1];exact (List.getElem?_eq_some_iff.1 hj).1
    have hT:=hcn.2 j _ u (List.getElem?_eq_getElem hjl) hj
    obtain⟨q,_,hq⟩:=List.mem_flatMap.1 (List.getElem_mem hjl)
    exact R.one q _ hq (free M w) w u hT
   have hsrc:=Src.ofSlice (P:=P) (size:=ti.size) w ht ⟨b,off2,none⟩ ys.length c news hnl hnews hone
   have hoff:∀k:Nat,(ownq R e xs (.slice (some ⟨gb,off,none⟩) xs.length cap)).fp k↔k=gb:=fun k=>by
    show Value.ownBlock _=some k↔_
    simp[Value.ownBlock,eq_comm]
   have hmx:xs.length * R.n≤cap * R.n:=Nat.mul_le_mul_right _ c1
   by_cases hcap:xs.length+ys.length≤cap
   ·have hmc:xs.length * R.n+ys.length * R.n≤cap * R.n:=by rw[←Nat.add_mul];exact Nat.mul_le_mul_right _ hcap
    have hfit:off+xs.length * ti.size+news.length≤cur.size:=by rw[hnl,hs];omega
    have hrun:=run_append_room_src (P:=P) w t t ty e ti ht hti gb off xs.length cap (.slice (some ⟨b,off2,none⟩) ys.length c) ys.length news hsrc hcap
     (fun j hj=>by
      have:off+xs.length * ti.size+j<cur.size:=by omega
      simp[World.cell?,hbk,this]) (fun j hj=>by simp[World.frozen?,hbk])
    obtain⟨cur',g1,g2,g3,g4,g5,g6,g7⟩:=QcZ gb news (off+xs.length * ti.size) w cur hbk (by omega)
    refine⟨_,_,hrun,⟨g5,g6,g7,by rw[g4];exact Nat.le_refl _,fun k _ hk=>g3 k (fun e=>hk ((hoff k).2 e))⟩,fun k hk=>?_,.inr ⟨gb,off,cap,cur',by rw[List.length_append],g1,by rw[List.length_append];exact hcap,c2,?_,?_⟩⟩
    ·have:k=gb:=by
      have hk':Value.ownBlock _=some k:=hk
      simpa[Value.ownBlock,eq_comm] using hk'
     refine⟨.inl ((hoff k).2 this),?_⟩
     rw[g4,this]
     exact (Array.getElem?_eq_some_iff.1 hbk).1
    ·have:=congrArg List.length g2
     simp at this
     rw[Array.length_toList] at *
     omega
    ·have e1:(cur'.toList.drop off).take ((xs++ys).length * R.n)=(cur.toList.drop off).take (xs.length * R.n)++news:=by
      have hlen1:((cur.toList.drop off).take (xs.length * R.n)).length=xs.length * R.n:=by simp;omega
      have e2:cur'.toList.drop off=(cur.toList.drop off).take (xs.length * R.n)++news++cur.toList.drop (off+xs.length * R.n+news.length):=by
       rw[g2,hs,List.append_assoc,List.drop_append_of_le_length (by simp;omega),←List.append_assoc]
       congr 2
       rw[List.drop_take]
       congr 1;omega
      rw[e2]
      refine List.take_left' ?_
      rw[List.length_append,hlen1,hnl,hs,List.length_append,Nat.add_mul]
     rw[e1,List.flatMap_append]
     exact (c4.append hcn).keepE (fun k hk=>hk) (fun k hk=>g3 k (fun e=>(hF k hk).2 ((hoff k).2 e)))
   ·have hbyt:(xs.length+ys.length) * ti.bytes≤140737488355328:=by
     rw[hbb]
     calc (xs.length+ys.length) * bytes≤68719476736 * 2048:=Nat.mul_le_mul hroom hb
      _≤140737488355328:=by omega
    have holdl:((cur.toList.drop off).take (xs.length * R.n)).length=xs.length * ti.size:=by rw[hs];simp;omega
    have holds:∀j u,((cur.toList.drop off).take (xs.length * R.n))[j]?=some u→w.drew.cell? ((⟨gb,off,none⟩:Addr).add j)=some u:=by
     intro j u hu
     rw[List.getElem?_take] at hu
     split at hu
     ·rw[QV]
      rw[List.getElem?_drop] at hu
      have:w.cell? ⟨gb,off+j,none⟩=some u:=by simpa[World.cell?,hbk] using hu
      simpa using this
     ·cases hu
    have hold:=run_firstCells_some (P:=P) w.drew ti.size xs.length ⟨gb,off,none⟩ xs.length cap _ holdl holds
    have hrun:=run_append_grow_src (P:=P) w t t ty e ti z ht hti hzz (some ⟨gb,off,none⟩) xs.length cap _ hold (.slice (some ⟨b,off2,none⟩) ys.length c) ys.length news hsrc (by omega) (by omega) (growslice_fits (by omega) hbyt)
    have hge:=grownCap_ge w (xs.length+ys.length) cap e
    have hle:=grownCap_le_maxLen w (xs.length+ys.length) cap e (by unfold maxLen;omega)
    refine⟨_,_,hrun,⟨rfl,rfl,rfl,by simp,fun k hk _=>Go.RowKit.Below.heap_alloc w.drew _ k hk⟩,fun k hk=>?_,.inr ⟨w.heap.size,0,_,_,by rw[List.length_append],heap_alloc_new w.drew _,by rw[List.length_append];exact hge,hle,?_,?_⟩⟩
    ·have hk':Value.ownBlock _=some k:=hk
     have:w.heap.size=k:=by simpa[Value.ownBlock] using hk'
     subst this
     exact⟨.inr (Nat.le_refl _),by simp⟩
    ·have hzn:z.cells.size=R.n:=hz.zc
     simp only[Array.size_append,List.size_toArray,size_zeroCells,List.length_append,holdl,hnl,hzn,hs,←Nat.add_mul,Nat.zero_add]
     refine Nat.le_of_eq ?_
     congr 1;omega
    ·have e1:((((cur.toList.drop off).take (xs.length * R.n)++news).toArray++Builtin.zeroCells z.cells (grownCap w (xs.length+ys.length) cap e - (xs.length+ys.length))).toList.drop 0).take ((xs++ys).length * R.n)=(cur.toList.drop off).take (xs.length * R.n)++news:=by
      rw[List.drop_zero,Array.toList_append]
      refine List.take_left' ?_
      rw[List.length_append,holdl,hnl,hs,List.length_append,Nat.add_mul]
     rw[e1,List.flatMap_append]
     exact (c4.append hcn).keepE (fun k hk=>hk) (fun k hk=>Go.RowKit.Below.heap_alloc w.drew _ k (hF k hk).1)
 obtain⟨v',w',hrun,hstep,hfp',hok⟩:=key
 have hexec:(execOp A.eval (⟨d,.call { callee:=.builtin .append,args:=#[x,y],argTypes:=#[t,t] },ty,pos,af,g⟩:Oper)).run P w=.ok (.value v') w':=by
  simp only[execOp,resolve,invoke,builtin,Sem.run_bind,Sem.run_pure,Result.andThen_ok,List.map_toArray,List.map_cons,List.map_nil,h1,h2,hrun]
 simp only[Does,hexec]
 refine⟨v',hstep.mono (fun k hk=>Q8.2 hk),QaZ (fun k hk=>⟨(hfp' k hk).1.imp Q8.2 id,(hfp' k hk).2⟩) ?_,rfl⟩
 refine Atom.keep _ (fun k hk=>?_) (fun _ _=>rfl) (fun _ _=>rfl) hok
 refine QaX hstep.size hgiv (fun B hB j hj=>?_) hk
 obtain rfl:=List.mem_singleton.1 hB
 exact (hfp' j hj).1.imp Q8.2 id
end
section
variable {Γ:List (Nat×Ty)} {x:Operand} {e:TypeId} {α:Type} {R:Rep α} {xs:List α} {v q:Value} {Ts:List Ty}
/-- A variable with a part that is owned is lent to a call that only reads. -/
theorem Qab.boxP {U:List Atom} (k:Nat) (h:Fct Γ x (tv q)) (hU:Sim.box Ts q∈U) (hO:Sim.own R e xs v∈U) (hk:Ts[k]?=some (tvs v)):Qab Γ U x (tptr (Ts.set k (tsl R xs))):=by
 intro F F' w a hF hA h0
 have hv:a.eval x=q:=h F w a h0
 obtain⟨hok,hfp⟩:=hA _ hU
 rw[hv]
 obtain⟨b,off,e1,e2,hr⟩:=Qc9 hok hF hfp
 refine⟨b,off,e1,e2,fun j T hT=>?_⟩
 rw[List.getElem?_set] at hT
 split at hT
 ·rename_i ej
  subst ej
  split at hT
  ·cases hT
   obtain⟨u,hu,hty⟩:=hr k (tvs v) hk
   have huv:u=v:=hty.1
   subst huv
   exact⟨u,hu,Qab.own (x:=.tmp 0) (Γ:=[(0,tv u)]) (U:=[Sim.own R e xs u]) (R:=R) (e:=e) (xs:=xs) (v:=u) (Fct.t 0 rfl) (by simp) F F' w ⟨#[u],[]⟩ hF (fun A hA'=>by simp at hA';subst hA';exact hA _ hO) (fun p hp _=>by simp at hp;subst hp;rfl)⟩
  ·cases hT
 ·exact hr j T hT
end
section
variable {M:Fr} {w0 w:World} {n:Nat} {Γ:List (Nat×Ty)} {As:List Atom} {a:Act} {α:Type} {R:Rep α} {e:TypeId} {xs:List α} {v:Value}
/-- A slice becomes a queue. -/
theorem St.toQ (h:St M w0 n Γ (Sim.own R e xs v::As) a w):St M w0 n Γ (ownq R e xs v::As) a w:=by
 have he:fps (ownq R e xs v::As)=fps (Sim.own R e xs v::As):=by
  funext j
  unfold fps
  simp only[List.mem_cons,exists_eq_or_imp]
  rfl
 have e2:hold M.m (ownq R e xs v::As)=hold M.m (Sim.own R e xs v::As):=by
  unfold hold
  rw[he]
 refine⟨h.size,h.defers,h.grow,h.m0,fun Z hZ=>?_,fun Z hZ=>?_,?_,by rw[e2];exact h.slots⟩
 ·rw[e2]
  rcases List.mem_cons.1 hZ with rfl | hZ
  ·exact QfI (h.own _ (by simp))
  ·exact h.own Z (by simp[hZ])
 ·rcases List.mem_cons.1 hZ with rfl | hZ
  ·exact h.fresh (Sim.own R e xs v) (by simp)
  ·exact h.fresh Z (by simp[hZ])
 ·have ha:=h.apart
  unfold QaR at ha ⊢
  rw[List.pairwise_cons] at ha ⊢
  exact⟨fun Z hZ k hk=>ha.1 Z hZ k hk,ha.2⟩
end

end Go.Sim

namespace Go.Sim

/-- A field of one cell of a struct's value. -/
def QgB (P:Program) (s:TypeId) (f off:Nat):Prop:=∃fs fd dd,P.underlying s=some (.struct fs)∧fs[f]?=some fd∧fd.offset=off∧P.underlying fd.type=some dd∧Qc7 dd=false
theorem Qhq {P:Program} {t:TypeId} {dd:TypeDesc} {w:World} (h:P.underlying t=some dd) (hd:Qc7 dd=false):(isAgg t).run P w=.ok false w:=by
 cases dd with
 | struct=>cases hd
 | array=>cases hd
 | _=>simp[isAgg,run_underlying h]
section
variable {Γ:List (Nat×Ty)} {P:Program} {d:Option Tmp} {ty:TypeId} {pos:String} {af:Array Edge} {g:Option (Nat×Bool)} {x y:Operand} {t:TypeId} {bytes:Nat} {z:Value}
theorem QgC {s:TypeId} {f off:Nat} {Ts:List Ty} {T:Ty} (hf:QgB P s f off) (hx:Fct Γ x (tagg Ts)) (hT:Ts[off]?=some T):OpJ P ⟨d,.field s x f,ty,pos,af,g⟩ Γ [] [] (fun _=>[]) (fun _=>T):=
 QE fun F w a he=>by
  obtain⟨fs,fd,dd,h1,h2,h3,h4,h5⟩:=hf
  obtain⟨cs,hv,hc⟩:=hx.use (by simp[Op.operands]) he
  have hl:off<cs.length:=by rw[hc.1];exact (List.getElem?_eq_some_iff.1 hT).1
  refine⟨cs[off],?_,hc.2 off T _ hT (by simp[hl])⟩
  simp[execOp,hv,Instr.field,run_underlying h1,h2,h3,part,Qhq h4 h5,asAgg,hl]
theorem QgD {q v0 qb:Value} {Ts:List Ty} (hz:TOk P t rVal bytes z) (hp:Fct Γ x (tv qb)) (hy:Fct Γ y (tv q)):
  OpJ P ⟨d,.store t x y,ty,pos,af,g⟩ Γ [box Ts q] [box [tvs v0] qb] (fun _=>[box [tvs q] qb]) (fun _=>tany):=
 .say (A:=box Ts q) (by simp) (fun _ _ h=>Qgz h) fun hq=>
  (Qr (R:=rVal) (a:=q) (Ts:=[tvs v0]) hz hp (hy.weak fun _ _ _ h=>⟨h,hq⟩) (Nat.le_refl _)).useMore (fun A hA=>by cases hA)
theorem zokPf:∀F w,(rVal.ty .nilFunc).ok F w .nilFunc:=fun _ _=>⟨rfl,rfl⟩
theorem zokP:∀F w,(rVal.ty (.pointer none)).ok F w (.pointer none):=fun _ _=>⟨rfl,rfl⟩
end
theorem Qfe {α:Type} {R:Rep α} {m:Mp α} {v:Value} (h:∀x,Qbc (R.ty x)):QbW (omap R m v):=fun F F' w ho=>by
 cases m with
 | none=>exact ho
 | some l=>
  obtain⟨b,es,c,h1,h2,h3⟩:=ho
  exact⟨b,es,c,h1,h2,fun e he=>let⟨i,x,a1,a2,a3⟩:=h3.all e he;⟨i,x,a1,a2,h x F F' w _ a3⟩,h3.has,h3.one⟩
theorem flatN2 {A B:Atom} (h:QbW A) (h2:QbW B):∀C∈[A,B],QbW C:=fun C hC=>by
 rcases List.mem_cons.1 hC with rfl | hC
 ·exact h
 ·obtain rfl:=List.mem_singleton.1 hC;exact h2
section
variable {Γ:List (Nat×Ty)} {P:Program} {d:Option Tmp} {ty:TypeId} {pos:String} {af:Array Edge} {g:Option (Nat×Bool)} {x:Operand} {t kt et:TypeId} {α:Type} {R:Rep α} {m:Mp α} {v:Value}
theorem QgE {t2:TypeId} (ht:P.underlying t=some (.map kt et)) (hx:Fct Γ x (tv v)):OpJ P ⟨d,.binOp .eql t x (.const (.map none)) t2,ty,pos,af,g⟩ Γ [omap R m v] [] (fun _=>[]) (fun _=>tv (.bool m.isNone)):=
 Qay fun M w a hU he=>by
  have h1:=hx.val (by simp[Op.operands]) he
  have h:(omap R m v).ok (free M w) w:=hU _ (List.mem_singleton.2 rfl)
  have hv:∃b:Option Nat,v=.map b∧b.isNone=m.isNone:=by
   cases m with
   | none=>exact⟨none,h,rfl⟩
   | some l=>obtain⟨b,_,_,h1,_⟩:=h;exact⟨some b,h1,rfl⟩
  obtain⟨b,hv,hb⟩:=hv
  subst hv
  refine⟨.bool b.isNone,?_,by rw[hb];rfl⟩
  simp[execOp,h1,QbI,eqGuard,binOp,run_equal_map_nil w t kt et b ht]
end
section
variable {M:Fr} {w0 w:World} {n:Nat} {Γ:List (Nat×Ty)} {As:List Atom} {a:Act}
theorem St.nilM {α:Type} (R:Rep α) (h:St M w0 n Γ As a w):St M w0 n Γ (omap R none (.map none)::As) a w:=by
 have hf:∀k,fps (omap R none (.map none)::As) k→fps As k:=by
  rintro k ⟨A,hA,hk⟩
  rcases List.mem_cons.1 hA with rfl | hA
  ·cases hk
  ·exact⟨A,hA,hk⟩
 refine⟨h.size,h.defers,h.grow,h.m0,?_,?_,?_,fun p hp=>p.2.keep (QY hf) (fun _ _=>rfl) (h.slots p hp)⟩
 ·intro A hA
  rcases List.mem_cons.1 hA with rfl | hA
  ·rfl
  ·exact A.keep (QY hf) (fun _ _=>rfl) (fun _ _=>rfl) (h.own A hA)
 ·intro A hA k hk
  rcases List.mem_cons.1 hA with rfl | hA
  ·cases hk
  ·exact h.fresh A hA k hk
 ·refine List.pairwise_cons.2 ⟨fun B _ k hk=>?_,h.apart⟩
  cases hk
end
end Go.Sim

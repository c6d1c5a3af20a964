/- The logic's twelfth part: tables made and grown, variables that hold slices of the call's own, closures over them, copies, cuts. No condition. -/
import Derived.Test.YtlajingmjmnfgaaGreatDoorSimG
import Derived.Lib.ConvBytes
import Derived.Lib.AppendStr
import Derived.Lib.UnsafeStr
import Derived.Lib.Builder
import Derived.Laws.Externs
set_option linter.all false
open List Go.IntKind
namespace Go.Sim
@[reducible] def ti (x : Int) : Ty := tv (.int .i64 x)
@[reducible] def tb (x : Bool) : Ty := tv (.bool x)
section
variable {M:Fr} {w0:World} {n:Nat} {Γ:List (Nat×Ty)} {As:List Atom} {a:Act} {w:World} {α:Type}
def selA (As:List Atom) (is:List Nat):List Atom:=is.filterMap fun i=>As[i]?
theorem Qo5 {As:List Atom} (hap:QcL As) {is:List Nat} (hd:Qa8 is=true):QcL (selA As is):=by
 unfold QcL selA at *;rw[pairwise_filterMap];refine (show is.Pairwise (·≠·) from Qgi hd).imp ?_;intro i j hij A hA B hB k hk hkB;rw[pairwise_iff_getElem] at hap;obtain⟨hi,rfl⟩:=Zf.1 hA;obtain⟨hj,rfl⟩:=Zf.1 hB;rcases Nat.lt_trichotomy i j with h | h | h
 ·exact hap i j hi hj h k hk hkB
 ·exact hij h
 ·exact hap j i hj hi h k hkB hk
theorem St.selA (h:St M w0 n Γ As a w) (is:List Nat) (hd:Qa8 is=true):St M w0 n Γ (selA As is) a w:=by
 have hmem:∀A,A∈Sim.selA As is→A∈As:=by intro A hA;obtain⟨i,_,hi⟩:=YA.1 hA;exact Zq hi
 have hf:∀k,fps (Sim.selA As is) k→fps As k:=fun k ⟨A,hA,hk⟩=>⟨A,hmem A hA,hk⟩;exact⟨h.size,h.defers,h.grow,h.m0,fun A hA=>A.keep (QbA hf) (fun _ _=>rfl) (fun _ _=>rfl) (h.own A (hmem A hA)),fun A hA=>h.fresh A (hmem A hA),Qo5 h.apart hd,fun p hp=>p.2.keep (QbA hf) (fun _ _=>rfl) (h.slots p hp)⟩
theorem St.rowsM {m:Int} {xss:List (List α)} (R:Rep α) (e:TypeId) (hm:Sim.mk m ([]:List α)=some xss) (h:St M w0 n Γ As a w):St M w0 n Γ (rows R e xss (replicate m.toNat nilV)::As) a w:=by
 unfold Sim.mk at hm;split at hm
 ·obtain rfl:=Zs hm;exact h.rows0 R e m.toNat
 ·cases hm
theorem St.rowsN (R:Rep α) (e:TypeId) (h:St M w0 n Γ As a w):St M w0 n Γ (rows R e ([]:List (List α)) []::As) a w:=h.rows0 R e 0
theorem St.shareO {R:Rep α} {e:TypeId} {xs:List α} {v:Value} {s:Nat} (i:Nat) (h:St M w0 n Γ (Sim.own R e xs v::As) a w) (hi:Γ[i]?=some (s,tv v)):St M w0 n ((s,tsl R xs)::Γ) As a w:=h.share i hi
end
section
variable {Γ:List (Nat×Ty)} {P:Program} {d:Option Tmp} {ty:TypeId} {pos:String} {af:Array Edge} {g:Option (Nat×Bool)} {x y:Operand} {T:Ty} {t e e1 e2:TypeId} {α:Type} {R:Rep α} {bytes:Nat} {z:Value} {xss:List (List α)} {us:List Value} {v:Value}
theorem zokV:∀F w,(rVal.ty nilV).ok F w (.slice none 0 0):=fun _ _=>⟨rfl,rfl⟩
theorem QxZ {n:Int} {k k':IntKind} (ht:P.underlying t=some (.slice e)) (hz:TOk P e rVal bytes (.slice none 0 0)) (hb:bytes≤2048) (hx:Fct Γ x (tv (.int k n))) (hy:Fct Γ y (tv (.int k' n))) (h:mk n ([]:List α)=some xss):
  OpJ P ⟨d,.makeSlice t x y,ty,pos,af,g⟩ Γ [] [] (fun v=>[own rVal e (replicate n.toNat nilV) v]) (fun v=>tv v):=by
 refine QgH (R:=rVal) ht hz zokV hb hx hy ?_;unfold mk at h ⊢;split at h
 ·rename_i hc;rw[Zc hc]
 ·cases h
theorem Qx0 {i:Int} {xs:List α} {yss:List (List α)} {u:Value} (h:setAt xss i xs=some yss) (hl:us.length=xss.length):setAt us i u=some (us.set i.toNat u):=by
 unfold setAt at h ⊢;split at h
 ·rename_i hc;rw[Zc ⟨hc.1,by omega⟩]
 ·cases h
theorem Qz8 {i:Int} {xs:List α} {yss:List (List α)} {u:Value} (hz:TOk P t rVal bytes z) (hp:Fct Γ x (tv (Qa9 v (i.toNat * rVal.n)))) (hx:Fct Γ y (tv u)) (h:setAt xss i xs=some yss):
  OpJ P ⟨d,.store t x y,ty,pos,af,g⟩ Γ [rows R e2 xss us,own R e xs u] [own rVal e1 us v] (fun _=>[own rVal e1 (us.set i.toNat u) v]) (fun _=>tany):=
 .say (A:=rows R e2 xss us) (by simp) (fun _ _ h=>QiI h) fun hl=>.say (A:=own R e xs u) (by simp) (fun _ _ h=>QgV h) fun hu=>(Qvh (us:=us) hz hp hx hu (Qx0 h hl)).useMore (fun A hA=>by cases hA)
theorem op_hdr {xs:List α} {u:Value} (ht:P.underlying t=some (.slice e1)) (hz:TOk P e1 rVal bytes z) (hx:Fct Γ x (tv u)):OpJ P ⟨d,.buildSlice t 1 #[(0,x)],ty,pos,af,g⟩ Γ [own R e xs u] [] (fun _=>[]) (fun _=>tsl rVal [u]):=.say (A:=own R e xs u) (by simp) (fun _ _ h=>QgV h) fun hu=>(Qah (R:=rVal) (len:=1) (us:=[u]) ht hz (.cons (hx.weak fun _ _ _ h=>⟨h,hu⟩) (.nil _)) rfl (by show 1 * 1≤16777216;omega)).useMore (fun A hA=>by cases hA)
theorem Qz9 {xs:List α} {u:Value} (ht:P.underlying t=some (.slice e1)) (hz:TOk P e1 rVal bytes z) (hx:Fct Γ x (tv u)):OpJ P ⟨d,.buildSlice t 1 #[(0,x)],ty,pos,af,g⟩ Γ [own R e xs u] [] (fun v=>[own rVal e1 [u] v]) (fun v=>tv v):=.say (A:=own R e xs u) (by simp) (fun _ _ h=>QgV h) fun hu=>(Qgk (R:=rVal) (len:=1) (us:=[u]) ht hz (.cons (hx.weak fun _ _ _ h=>⟨h,hu⟩) (.nil _)) rfl (by show 1 * 1≤16777216;omega) (by omega)).useMore (fun A hA=>by cases hA)
theorem QtY {ws:List Value} (ht:P.underlying t=some (.slice e)) (hz:TOk P e rVal bytes z) (hb:bytes≤2048) (hx:Fct Γ x (tv v)) (hy:Fct Γ y (tsl rVal ws)) (h:rm (xss.length+ws.length)=some ()):
  OpJ P ⟨d,.call { callee:=.builtin .append,args:=#[x,y],argTypes:=#[t,t] },ty,pos,af,g⟩ Γ [rows R e2 xss us] [own rVal e us v] (fun v'=>[own rVal e (us++ws) v']) (fun v'=>tv v'):=
 .say (A:=rows R e2 xss us) (by simp) (fun _ _ h=>QiI h) fun hl=>(QaL (R:=rVal) (xs:=us) ht hz hb hx hy (by rw[hl];exact h)).useMore (fun A hA=>by cases hA)
theorem Qe2 (hz:TOk P t rVal bytes (.slice none 0 0)):OpJ P ⟨d,.alloc t,ty,pos,af,g⟩ Γ [] [] (fun p=>[box (rVal.cs nilV) p]) (fun p=>tv p):=QaP (R:=rVal) (a:=nilV) hz zokV
theorem Qa5 {q u:Value} (hz:TOk P t rVal bytes z) (hp:Fct Γ x (tv q)):OpJ P ⟨d,.load t x,ty,pos,af,g⟩ Γ [box (rVal.cs u) q] [] (fun _=>[]) (fun _=>tv u):=QjD (QiH (R:=rVal) (u:=u) hz hp rfl) (fun _ _ _ _ h=>h.1)
def Qnr (U:List Atom) (T T':Ty):Prop:=∀(F F':Blk) (w:World) (v:Value),(∀k,F k→F' k)→(∀A∈U,A.ok F w∧∀k,A.fp k→F' k)→T.ok F w v→T'.ok F' w v
inductive Qke (U:List Atom):List Ty→List Ty→Prop where
 | nil:Qke U [] []
 | cons {T T':Ty} {Tc Tc':List Ty} (h:Qnr U T T') (hs:Qke U Tc Tc'):Qke U (T::Tc) (T'::Tc')
theorem QqD {U:List Atom} {Ts:List Ty} {q:Value} (hU:box Ts q∈U):Qnr U (tv q) (tptr Ts):=fun F F' w v hF hA h=>by have hv:v=q:=h;subst hv;exact Qlc (hA _ hU).1 hF (hA _ hU).2
theorem row1 {T:Ty} {F:Blk} {w:World} {b off:Nat} {u:Value} (hu:w.cell? ⟨b,off,none⟩=some u) (h:T.ok F w u):Row [T] F w b off:=fun j T' hj=>by
 match j,hj with
 | 0,hj=>simp at hj;subst hj;exact⟨u,hu,h⟩
theorem QqE {U:List Atom} {q u:Value} {T:Ty} (h1:box (rVal.cs u) q∈U) (h2:∀(F F':Blk) (w:World),(∀k,F k→F' k)→(∀A∈U,A.ok F w∧∀k,A.fp k→F' k)→T.ok F' w u):Qnr U (tv q) (tptr [T]):=fun F F' w v hF hA h=>by have hv:v=q:=h;subst hv;obtain⟨b,hq,hr⟩:=QgR (hA _ h1).1;obtain⟨u',hu',hT⟩:=hr 0 (tvs u) rfl;obtain⟨rfl,_⟩:=hT;exact⟨b,0,hq,(hA _ h1).2 b hq,row1 hu' (h2 F F' w hF hA)⟩
theorem Qvi {U:List Atom} {q u:Value} {xs:List α} (h1:box (rVal.cs u) q∈U) (h2:own R e xs u∈U):Qnr U (tv q) (tptr [tsl R xs]):=QqE h1 fun F F' w hF hA=>Qa0.own (x:=.const u) (Γ:=[]) (U:=U) (R:=R) (e:=e) (xs:=xs) (v:=u) .k h2 F F' w ⟨#[],[]⟩ hF hA (fun p hp=>by simp at hp)
theorem Qo6 {U:List Atom} {q u:Value} (h1:box (rVal.cs u) q∈U) (h2:own rVal e1 us u∈U) (h3:rows R e2 xss us∈U):Qnr U (tv q) (tptr [tsl (rSl R) xss]):=QqE h1 fun F F' w hF hA=>Qa0.table (x:=.const u) (Γ:=[]) (U:=U) (R:=R) (e1:=e1) (e2:=e2) (xss:=xss) (us:=us) (v:=u) .k h2 h3 F F' w ⟨#[],[]⟩ hF hA (fun p hp=>by simp at hp)
theorem Qke.cells {U:List Atom} {Tc Tc':List Ty} (h:Qke U Tc Tc') {F F':Blk} {w:World} {vs:List Value} (hF:∀k,F k→F' k) (hA:∀A∈U,A.ok F w∧∀k,A.fp k→F' k) (hc:QQ Tc F w vs):QQ Tc' F' w vs:=by
 induction h generalizing vs with
 | nil=>exact (by have:=hc.inv0;subst this;exact .nil)
 | cons h hs ih=>obtain⟨u,us,rfl,h1,h2⟩:=hc.inv;exact .cons (h F F' w u hF hA h1) (ih h2)
theorem QfI {f:Operand} {fid:FuncId} {Tc Ts:List Ty} {xs:List Operand} {ts:Array TypeId} {E:List Atom} {N:Value→List Atom} {T:Value→Ty} (hc:Qj P fid) (hfn:FnOk P fid (Ts++Tc) E N T)
  (hf:Fct Γ f (QaO fid Tc)) (ha:Args Γ [] xs Ts):OpJ P ⟨d,.call { callee:=.value f,args:=xs.toArray,argTypes:=ts },ty,pos,af,g⟩ Γ [] E N T:=by
 intro M w a hM _ hE hap _ he;obtain⟨caps,hfv,hcap⟩:=hf.use (by simp[Op.operands,Call.operands]) he;have hargs:=ha.cells (F:=free M w) (F':=free M w) (a:=a) (fun _ h=>h) (fun A hA=>by simp at hA) (fun p hp hx=>he p hp (by simp[Op.operands,Call.operands,hx]));have hcells:=hargs.append hcap;simp only[Does,Qkb hc hfv];refine Calls.mono (hfn M w _ hM hE hap hcells) ?_;rintro e w' ⟨x,v,he,h⟩;exact⟨v,he,x,h⟩
theorem QqF {f:Operand} {fid:FuncId} {Tc Tc' Ts:List Ty} {xs:List Operand} {ts:Array TypeId} {E:List Atom} {N:Value→List Atom} {T:Value→Ty} (U:List Atom) (hc:Qj P fid) (hfn:FnOk P fid (Ts++Tc') E N T)
  (hf:Fct Γ f (QaO fid Tc)) (hl:Qke U Tc Tc') (ha:Args Γ U xs Ts) (hT:∀x,Qg7 (T x)) (hN:∀x,∀A∈N x,Qka A):OpJ P ⟨d,.call { callee:=.value f,args:=xs.toArray,argTypes:=ts },ty,pos,af,g⟩ Γ U E N T:=by
 intro M w a hM hU hE hap hUE he;have hM':∀k,(M k∧¬∃A∈U,A.fp k)→k<w.heap.size:=fun k h=>hM k h.1;have hsub:∀k,free M w k→free (fun k=>M k∧¬∃A∈U,A.fp k) w k:=fun k h=>⟨h.1,fun hm=>h.2 hm.1⟩;have hUF:∀A∈U,A.ok (free M w) w∧∀k,A.fp k→free (fun k=>M k∧¬∃A∈U,A.fp k) w k:=fun A hA=>⟨(hU A hA).1,fun k hk=>⟨hM k ((hU A hA).2 k hk),fun hm=>hm.2 ⟨A,hA,hk⟩⟩⟩;have hE':Qe5 (fun k=>M k∧¬∃A∈U,A.fp k) E w:=fun B hB=>⟨B.keep hsub (fun _ _=>rfl) (fun _ _=>rfl) (hE B hB).1,fun k hk=>⟨(hE B hB).2 k hk,fun⟨A,hA,hkA⟩=>hUE A hA B hB k hkA hk⟩⟩;obtain⟨caps,hfv,hcap⟩:=hf.use (by simp[Op.operands,Call.operands]) he;have hargs:=ha.cells (a:=a) hsub hUF (fun p hp hx=>he p hp (by simp[Op.operands,Call.operands,hx]));have hcells:=hargs.append (hl.cells hsub hUF hcap);simp only[Does,Qkb hc hfv];refine Calls.mono (hfn _ w _ hM' hE' hap hcells) ?_;rintro e w' ⟨x,v,he,hg,hN',hT'⟩;exact⟨v,he,x,hg,⟨hN'.apart,hN'.place,fun A hA=>hN x A hA _ _ _ (hN'.ok A hA)⟩,hT x _ _ _ _ hT'⟩
def cpy (xs ys:List α):List α:=ys.take xs.length++xs.drop ys.length
theorem QsP (xs ys:List α):(cpy xs ys).length=xs.length:=by simp[cpy];omega
theorem Qns {xs:List α} {v:Value} {F:Blk} {w:World} (h:(own R e xs v).ok F w):∃us,QQ (xs.flatMap R.cs) F w us∧((v=.slice none 0 0∧xs=[])∨∃b cap,v=.slice (some ⟨b,0,none⟩) xs.length cap∧∀j u,us[j]?=some u→w.cell? ⟨b,j,none⟩=some u):=by
 rcases QaS h with⟨hv,hx⟩ | ⟨b,cap,cur,hv,hb,h1,h2,h3,h4⟩
 ·subst hx;exact⟨[],.nil,.inl ⟨hv,rfl⟩⟩
 ·refine⟨_,h4,.inr ⟨b,cap,hv,fun j u hu=>?_⟩⟩;rw[getElem?_take] at hu;split at hu
  ·simp only[World.cell?,hb];simpa using hu
  ·cases hu
theorem Qx1 {xs ys:List α} {v:Value} {F F':Blk} {w:World} {ad:Option Addr} {c:Nat} {vs:List Value} {ta:Array TypeId} (ht:P.underlying t=some (.slice e)) (hta:ta[0]?=some t) (hz:TOk P e R bytes z) (ho:(own R e xs v).ok F w) (hF:∀k,F k→¬(own R e xs v).fp k) (hFF:∀k,F k→F' k)
  (hvs:QQ (ys.flatMap R.cs) F w vs) (hr:ys=[]∨∃b off,ad=some ⟨b,off,none⟩∧∀j u,vs[j]?=some u→w.cell? ⟨b,off+j,none⟩=some u):
  ∃w',(Builtin.copy_ ta ty #[v,.slice ad ys.length c]).run P w=.ok (.int .i64 (Nat.min ys.length xs.length)) w'∧Step (own R e xs v).fp w w'∧(own R e (cpy xs ys) v).ok F' w'∧w'.heap.size=w.heap.size:=by
 obtain⟨ti,hti,_,hs,_⟩:=hz.info;have hvl:vs.length=ys.length * R.n:=by rw[hvs.1,Qap]
 rcases QaS ho with⟨hv,hx⟩ | ⟨b,cap,cur,hv,hb,h1,h2,h3,h4⟩
 ·subst hv;subst hx;refine⟨w,?_,Step.refl _ _,?_,rfl⟩
  ·cases ad<;>simp[Builtin.copy_,hta,run_underlying ht,Builtin.lenOf,sizeOf,typeInfo,hti,Builtin.firstCells,goInt,loadCells,loadCellsFrom]
  ·simp only[cpy,ZS,take_zero,drop_nil,Yh];exact Qkd
 ·have hxl:xs.length * R.n≤cur.size:=by rw[h3];exact Nat.mul_le_mul_right _ h1
  obtain⟨m,hm⟩:∃m,m=Nat.min ys.length xs.length:=⟨_,rfl⟩;have hm1:m≤ys.length:=by rw[hm];exact Nat.min_le_left _ _
  have hm2:m≤xs.length:=by rw[hm];exact Nat.min_le_right _ _
  have hmy:m * R.n≤ys.length * R.n:=Nat.mul_le_mul_right _ hm1;have hmx:m * R.n≤xs.length * R.n:=Nat.mul_le_mul_right _ hm2;have hnl:(vs.take (m * R.n)).length=m * R.n:=by simp;omega
  have hone:∀u∈vs.take (m * R.n),u.oneCell'=true:=by
   intro u hu;obtain⟨j,hj⟩:=Yd.1 (mem_of_mem_take hu);have hjl:j<(ys.flatMap R.cs).length:=by rw[←hvs.1];exact (Zf.1 hj).1
   have hT:=hvs.2 j _ u (Zb hjl) hj;obtain⟨q,_,hq⟩:=ZG.1 (Zn hjl);exact R.one q _ hq F w u hT
  have hfc:(Builtin.firstCells R.n m (.slice ad ys.length c)).run P w=.ok (vs.take (m * R.n)).toArray w:=by
   rcases hr with rfl | ⟨b',off,rfl,hcell⟩
   ·have:vs=[]:=ZO (by rw[hvl];simp);subst this;have hm0:m=0:=by simpa using hm1
    rw[hm0];cases ad<;>simp[Builtin.firstCells,loadCells,loadCellsFrom]
   ·have:=run_loadCells_list (P:=P) w ⟨b',off,none⟩ (vs.take (m * R.n)) (fun j u hj=>by
     rw[getElem?_take] at hj;split at hj
     ·rw[QaI];exact hcell j u hj
     ·cases hj)
    rw[hnl] at this;simpa[Builtin.firstCells] using this
  have hst:=run_storeCells_at P b 0 e (vs.take (m * R.n)) 0 cur w hb (by rw[hnl];omega) hone;simp only[Nat.add_zero,Nat.zero_add,take_zero,Yg,hnl] at hst;refine⟨w.setRow b (vs.take (m * R.n)++cur.toList.drop (m * R.n)).toArray,?_,Qet (by rw[hv];exact Qbu.2 rfl),?_,by simp⟩
  ·subst hv;have hlen:(Builtin.lenOf (.slice ad ys.length c)).run P w=.ok ys.length w:=by simp[Builtin.lenOf]
   simp only[Builtin.copy_,hta,run_underlying ht,getElem?_toArray,getElem?_cons_zero,getElem?_cons_succ,Sem.run_bind,hlen,Zo,sizeOf,typeInfo,run_program,hti,Sem.run_pure,←hm,hs,hfc,hst,goInt]
  ·have hcl:(cpy xs ys).length=xs.length:=QsP xs ys;have hv':v=.slice (some ⟨b,0,none⟩) (cpy xs ys).length cap:=by rw[hcl];exact hv
   rw[hv'];refine QfH (setRow_heap w b cur _ e _ hb) (by rw[hcl];exact h1) h2 (by simp only[size_toArray,Zi,hnl,Ys,Array.length_toList];omega) ?_;rw[hcl];have e1:((vs.take (m * R.n)++cur.toList.drop (m * R.n)).toArray.toList).take (xs.length * R.n)=vs.take (m * R.n)++(cur.toList.take (xs.length * R.n)).drop (m * R.n):=by simp only[];rw[take_append,hnl,drop_take];congr 1;rw[ZD (by rw[hnl];exact hmx)]
   rw[e1];have e2:(cpy xs ys).flatMap R.cs=(ys.flatMap R.cs).take (m * R.n)++(xs.flatMap R.cs).drop (m * R.n):=by
    unfold cpy;have e3:ys.take xs.length=ys.take m:=by
     rw[hm]
     change _=ys.take (min ys.length xs.length)
     rcases Nat.le_total ys.length xs.length with h | h
     ·rw[Nat.min_eq_left h,ZD h,take_length]
     ·rw[Nat.min_eq_right h]
    have e4:xs.drop ys.length=xs.drop m:=by
     rw[hm]
     change _=xs.drop (min ys.length xs.length)
     rcases Nat.le_total ys.length xs.length with h | h
     ·rw[Nat.min_eq_left h]
     ·rw[Nat.min_eq_right h,drop_of_length_le h,drop_length]
    rw[e3,e4,ZM];have f1:=Row.flatMap_sub R ys 0 m (by omega);simp only[drop_zero,Nat.zero_mul] at f1;have f2:=Row.flatMap_sub R xs m (xs.length - m) (by omega);rw[ZD (l:=xs.drop m) (by simp)] at f2;have f3:((xs.flatMap R.cs).drop (m * R.n)).take ((xs.length - m) * R.n)=(xs.flatMap R.cs).drop (m * R.n):=ZD (by rw[Ys,Qap,Nat.sub_mul];exact Zx _);rw[f1,f2,f3]
   rw[e2];have c1:QQ ((ys.flatMap R.cs).take (m * R.n)) F w (vs.take (m * R.n)):=⟨by simp[hvs.1],fun j T u hT hu=>by
    rw[getElem?_take] at hT hu;split at hT
    ·rw[Zc (by assumption)] at hu;exact hvs.2 j T u hT hu
    ·cases hT⟩
   have c2:QQ ((xs.flatMap R.cs).drop (m * R.n)) F w ((cur.toList.take (xs.length * R.n)).drop (m * R.n)):=⟨by rw[Ys,Ys,h4.1],fun j T u hT hu=>by rw[getElem?_drop] at hT hu;exact h4.2 _ T u hT hu⟩;exact (c1.append c2).keepE hFF (fun k hk=>setRow_other w b k _ (fun e=>hF k hk (by rw[hv,e];exact Qbu.2 rfl)))
theorem QqG {xs ys:List α} {v:Value} {U:List Atom} {ta:Array TypeId} (ht:P.underlying t=some (.slice e)) (hta:ta[0]?=some t) (hz:TOk P e R bytes z) (hx:Fct Γ x (tv v))
  (hsrc:∀(M:Blk) (w:World) (A:Act),Qe5 M U w→Qg4 Γ (⟨d,.call { callee:=.builtin .copy,args:=#[x,y],argTypes:=ta },ty,pos,af,g⟩:Oper).op.operands (free M w) w A→∃ad c vs,A.eval y=.slice ad ys.length c∧QQ (ys.flatMap R.cs) (free M w) w vs∧(ys=[]∨∃b off,ad=some ⟨b,off,none⟩∧∀j u,vs[j]?=some u→w.cell? ⟨b,off+j,none⟩=some u)):
  OpJ P ⟨d,.call { callee:=.builtin .copy,args:=#[x,y],argTypes:=ta },ty,pos,af,g⟩ Γ U [own R e xs v] (fun _=>[own R e (cpy xs ys) v]) (fun _=>tv (.int .i64 (Nat.min ys.length xs.length))):=by
 intro M w A hM hU hE _ _ he;obtain⟨ho,hfp⟩:=hE _ (Ze.2 rfl);have hgiv:=QdI hE;have h1:=hx.val (by simp[Op.operands,Call.operands]) he;obtain⟨ad,c,vs,h2,hvs,hr⟩:=hsrc M w A hU he;obtain⟨w',hrun,hstep,hok,hsz⟩:=Qx1 (ty:=ty) (c:=c) (F':=free M w) ht hta hz ho (fun k hk hf=>hk.2 (hfp k hf)) (fun k hk=>hk) hvs hr;have hexec:(execOp A.eval (⟨d,.call { callee:=.builtin .copy,args:=#[x,y],argTypes:=ta },ty,pos,af,g⟩:Oper)).run P w=.ok (.value (.int .i64 (Nat.min ys.length xs.length))) w':=by simp only[execOp,resolve,invoke,builtin,Sem.run_bind,Sem.run_pure,Zo,map_toArray,Yi,Yz,h1,h2,hrun]
 simp only[Does,hexec];refine⟨undef,hstep.mono (fun k hk=>Qan.2 hk),Qcs (fun k hk=>⟨.inl (Qan.2 hk),by rw[hsz];exact hM k (hfp k hk)⟩) ?_,rfl⟩;refine Atom.keep _ (fun k hk=>?_) (fun _ _=>rfl) (fun _ _=>rfl) hok;refine Qc8 (by omega) hgiv (fun B hB j hj=>?_) hk;obtain rfl:=Ze.1 hB;exact .inl (Qan.2 hj)
theorem QAa {xs ys:List α} {v:Value} {ta:Array TypeId} (ht:P.underlying t=some (.slice e)) (hta:ta[0]?=some t) (hz:TOk P e R bytes z) (hx:Fct Γ x (tv v)) (hy:Fct Γ y (tsl R ys)):
  OpJ P ⟨d,.call { callee:=.builtin .copy,args:=#[x,y],argTypes:=ta },ty,pos,af,g⟩ Γ [] [own R e xs v] (fun _=>[own R e (cpy xs ys) v]) (fun _=>tv (.int .i64 (Nat.min ys.length xs.length))):=
 QqG ht hta hz hx fun M w A _ he=>by
  obtain⟨ad,cap,h2,_,hr⟩:=hy.use (by simp[Op.operands,Call.operands]) he;by_cases hn:ys=[]
  ·subst hn;exact⟨_,_,[],h2,.nil,.inl rfl⟩
  ·obtain⟨b,off,ha,_,hrow⟩:=hr hn;obtain⟨vs,hc,hcell⟩:=Qj9 _ _ hrow;exact⟨_,_,vs,h2,hc,.inr ⟨b,off,ha,hcell⟩⟩
theorem Qx2 {xs ys:List α} {v v2:Value} {e3:TypeId} {ta:Array TypeId} (ht:P.underlying t=some (.slice e)) (hta:ta[0]?=some t) (hz:TOk P e R bytes z) (hx:Fct Γ x (tv v)) (hy:Fct Γ y (tv v2)):
  OpJ P ⟨d,.call { callee:=.builtin .copy,args:=#[x,y],argTypes:=ta },ty,pos,af,g⟩ Γ [own R e3 ys v2] [own R e xs v] (fun _=>[own R e (cpy xs ys) v]) (fun _=>tv (.int .i64 (Nat.min ys.length xs.length))):=
 QqG ht hta hz hx fun M w A hU he=>by
  have h2:=hy.val (by simp[Op.operands,Call.operands]) he;obtain⟨vs,hc,hr⟩:=Qns (hU _ (Ze.2 rfl)).1;rcases hr with⟨hv,rfl⟩ | ⟨b,cap,hv,hcell⟩
  ·exact⟨none,0,vs,h2.trans hv,hc,.inl rfl⟩
  ·exact⟨_,cap,vs,h2.trans hv,hc,.inr ⟨b,0,rfl,fun j u hu=>by rw[Nat.zero_add];exact hcell j u hu⟩⟩
theorem Qx3 {xs ys:List α} {v:Value} {i:Int} {ta:Array TypeId} (ht:P.underlying t=some (.slice e)) (hta:ta[0]?=some t) (hz:TOk P e R bytes z) (hx:Fct Γ x (tv v)) (hy:Fct Γ y (tv (usAt us i))) (h:idx xss i=some ys):
  OpJ P ⟨d,.call { callee:=.builtin .copy,args:=#[x,y],argTypes:=ta },ty,pos,af,g⟩ Γ [rows R e2 xss us] [own R e xs v] (fun _=>[own R e (cpy xs ys) v]) (fun _=>tv (.int .i64 (Nat.min ys.length xs.length))):=
 .usePart (QgU h) Qhr (Qx2 ht hta hz hx hy)
end
def iand (k:IntKind) (a b:Int):Int:=k.wrap ((BitVec.ofInt k.bits a&&& BitVec.ofInt k.bits b).toNat:Int)
def ishl (k:IntKind) (a b:Int):Int:=k.wrap (a * 2 ^ (min b.toNat k.bits))
def ishr (k:IntKind) (a b:Int):Int:=a.fdiv (2 ^ (min b.toNat k.bits))
def nn (b:Int):Option Unit:=if 0≤b then some () else none
def Qnt {b:Int} {u:Unit} (h:nn b=some u):0≤b:=by unfold nn at h;split at h<;>first | assumption | cases h
def cutV (m:Nat) (v:Value) (i j:Int):Value:=match v with
 | .slice ad _ cap=>.slice (if cap=i.toNat then ad else ad.map (·.add (i.toNat * m))) (j.toNat - i.toNat) (cap - i.toNat)
 | x=>x
def QjE {α:Type} {xs ys:List α} {i j:Int} (h:sub xs i j=some ys):0≤i∧i≤j∧j.toNat≤xs.length∧ys=(xs.drop i.toNat).take (j.toNat - i.toNat)∧ys.length=j.toNat - i.toNat:=by
 unfold sub at h;split at h
 ·rename_i hc;obtain rfl:=Zs h;exact⟨hc.1,hc.2.1,by omega,rfl,by simp;omega⟩
 ·cases h
section
variable {Γ:List (Nat×Ty)} {P:Program} {d:Option Tmp} {ty:TypeId} {pos:String} {af:Array Edge} {g:Option (Nat×Bool)} {x y:Operand} {T:Ty} {t t2 e:TypeId} {α:Type} {R:Rep α} {bytes:Nat} {z:Value} {v:Value} {k k2:IntKind} {a b:Int}
theorem QcI (hx:Fct Γ x (tv (.int k a))) (hy:Fct Γ y (tv (.int k b))):OpJ P ⟨d,.binOp .and t x y t2,ty,pos,af,g⟩ Γ [] [] (fun _=>[]) (fun _=>tv (.int k (iand k a b))):=QbX hx hy fun w=>by simp[eqGuard,binOp,Op.intBits,iand]
theorem QAb (hx:Fct Γ x (tv (.int k a))) (hy:Fct Γ y (tv (.int k2 b))) (h:0≤b):OpJ P ⟨d,.binOp .shl t x y t2,ty,pos,af,g⟩ Γ [] [] (fun _=>[]) (fun _=>tv (.int k (ishl k a b))):=QbX hx hy fun w=>by simp[eqGuard,binOp,Op.shift,ishl,Int.not_lt.2 h]
theorem QbY (hx:Fct Γ x (tv (.int k a))) (hy:Fct Γ y (tv (.int k2 b))) (h:0≤b):OpJ P ⟨d,.binOp .shr t x y t2,ty,pos,af,g⟩ Γ [] [] (fun _=>[]) (fun _=>tv (.int k (ishr k a b))):=QbX hx hy fun w=>by simp[eqGuard,binOp,Op.shift,ishr,Int.not_lt.2 h]
theorem QAc {xs:List α} {v:Value} {F:Blk} {w:World} (h:(own R e xs v).ok F w):∃ad cap,v=.slice ad xs.length cap∧xs.length≤cap:=by
 rcases QaS h with⟨hv,hn⟩ | ⟨b,cap,cur,hv,_,h1,_⟩
 ·subst hn;exact⟨none,0,hv,Zx _⟩
 ·exact⟨_,cap,hv,h1⟩
theorem Qvj {xs ys:List α} {lo hi:Option Operand} {i j:Int} (ht:P.underlying t=some (.slice e)) (hz:TOk P e R bytes z) (hx:Fct Γ x (tv v)) (hlo:Bd Γ lo 0 i) (hhi:Bd Γ hi xs.length j) (h:sub xs i j=some ys):
  OpJ P ⟨d,.slice t x lo hi none,ty,pos,af,g⟩ Γ [own R e xs v] [] (fun _=>[]) (fun _=>tv (cutV R.n v i j)):=
 QcH fun M w A hU he=>by
  obtain⟨ad,cap,hv,hlc⟩:=QAc (hU _ (Ze.2 rfl));have hxv:=hx.val (by simp[Op.operands]) he;obtain⟨ti,hti,_,hs,_⟩:=hz.info;obtain⟨c0,c1,c2,_,_⟩:=QjE h;have hb:(Instr.sliceBounds true xs.length cap (lo.map A.eval) (hi.map A.eval) none).run P w=.ok (i.toNat,j.toNat,cap) w:=by
   rcases hlo.use (by rintro y rfl;simp[Op.operands]) he with⟨e1,e2⟩ | ⟨k1,e1⟩<;>rcases hhi.use (by rintro y rfl;simp[Op.operands]) he with⟨f1,f2⟩ | ⟨k2,f1⟩
   ·rw[e1,f1,e2,f2];simp[Instr.sliceBounds]
   ·rw[e1,f1,e2];simp only[Instr.sliceBounds,Sem.run_bind,Sem.run_pure,Zo,run_sliceBound w k2 j cap _ (by omega) (by omega)];rfl
   ·rw[e1,f1,f2];simp only[Instr.sliceBounds,Sem.run_bind,Sem.run_pure,Zo,run_sliceBound w k1 i xs.length _ c0 (by omega)];simp
   ·rw[e1,f1];simp only[Instr.sliceBounds,Sem.run_bind,Sem.run_pure,Zo,run_sliceBound w k2 j cap _ (by omega) (by omega),run_sliceBound w k1 i j.toNat _ c0 (by omega)]
  refine⟨cutV R.n v i j,?_,rfl⟩;subst hv;simp[execOp,Instr.sliceAt,run_underlying ht,Instr.slice,hxv,hb,sizeOf,typeInfo,hti,hs,cutV]
theorem QAd {xs ys:List α} {b n cap:Nat} {i j:Int} {F:Blk} {w:World} (h:(own R e xs (.slice (some ⟨b,0,none⟩) n cap)).ok F w) (hs:sub xs i j=some ys):Row (ys.flatMap R.cs) F w b (i.toNat * R.n):=by
 obtain⟨c0,c1,c2,hy,hl⟩:=QjE hs;rcases QaS h with⟨hv,_⟩ | ⟨b',cap',cur,hv,hb,h1,h2,h3,h4⟩
 ·simp at hv
 ·simp only[Value.slice.injEq,ZX,Addr.mk.injEq,and_true] at hv;obtain⟨rfl,rfl,rfl⟩:=hv;have hrow:Row (xs.flatMap R.cs) F w b 0:=fun q T hT=>by
   have hj:q<(cur.toList.take (xs.length * R.n)).length:=by rw[h4.1];exact (Zf.1 hT).1
   refine⟨(cur.toList.take (xs.length * R.n))[q],?_,h4.2 q T _ hT (Zb hj)⟩;have hj2:q<cur.size:=by simp at hj;omega
   simp[World.cell?,hb,hj2]
  rw[hy,Row.flatMap_sub R xs _ _ (by omega)];have:=(hrow.part (i.toNat * R.n)).head (Us:=((xs.flatMap R.cs).drop (i.toNat * R.n)).take ((j.toNat - i.toNat) * R.n)) (by rw[Yb,take_eq_take_iff];simp);simpa using this
theorem QsQ {m:Nat} {i j:Int} {α:Type} {ys:List α} (h:sub ([]:List α) i j=some ys):cutV m (.slice none 0 0) i j=.slice none 0 0∧ys=[]:=by
 obtain⟨c0,c1,c2,hy,hl⟩:=QjE h;have hj:j.toNat=0:=by simpa using c2
 have hi:i.toNat=0:=by omega
 refine⟨by simp[cutV,hi,hj],by rw[hy];simp⟩
theorem QqH {m b n cap:Nat} {i j:Int} {xs ys:List α} (hs:sub xs i j=some ys) (hn:xs.length≤cap) (hy:ys≠[]):cutV m (.slice (some ⟨b,0,none⟩) n cap) i j=.slice (some ⟨b,i.toNat * m,none⟩) ys.length (cap - i.toNat):=by obtain⟨c0,c1,c2,_,hl⟩:=QjE hs;have:0<ys.length:=length_pos_iff.2 hy;simp only[cutV];rw[Zd (by omega),hl];simp[QaI]
theorem QtZ {xs ds ss:List α} {lo hi lo2 hi2:Int} {ta:Array TypeId} (ht:P.underlying t=some (.slice e)) (hta:ta[0]?=some t) (hz:TOk P e R bytes z) (hx:Fct Γ x (tv (cutV R.n v lo hi))) (hy:Fct Γ y (tv (cutV R.n v lo2 hi2))) (hs:sub xs lo hi=some ds) (hs2:sub xs lo2 hi2=some ss):
  OpJ P ⟨d,.call { callee:=.builtin .copy,args:=#[x,y],argTypes:=ta },ty,pos,af,g⟩ Γ [] [own R e xs v] (fun _=>[own R e (xs.take lo.toNat++cpy ds ss++xs.drop hi.toNat) v]) (fun _=>tv (.int .i64 (Nat.min ss.length ds.length))):=by
 intro M w A hM _ hE _ _ he;obtain⟨ho,hfp⟩:=hE _ (Ze.2 rfl);have hgiv:=QdI hE;have h1:=hx.val (by simp[Op.operands,Call.operands]) he;have h2:=hy.val (by simp[Op.operands,Call.operands]) he;obtain⟨ti,hti,_,hsz,_⟩:=hz.info;have hex:∀r w',(Builtin.copy_ ta ty #[cutV R.n v lo hi,cutV R.n v lo2 hi2]).run P w=.ok r w'→(execOp A.eval (⟨d,.call { callee:=.builtin .copy,args:=#[x,y],argTypes:=ta },ty,pos,af,g⟩:Oper)).run P w=.ok (.value r) w':=by intro r w' hr;simp only[execOp,resolve,invoke,builtin,Sem.run_bind,Sem.run_pure,Zo,map_toArray,Yi,Yz,h1,h2,hr]
 rcases QaS ho with⟨hv,hxs⟩ | ⟨b,cap,cur,hv,hbk,hlc,hmx,hcs,hcl⟩
 ·subst hv;subst hxs;obtain⟨a1,rfl⟩:=QsQ (m:=R.n) hs;obtain⟨a2,rfl⟩:=QsQ (m:=R.n) hs2;have hr:=hex (.int .i64 0) w (by rw[a1,a2];simp[Builtin.copy_,hta,run_underlying ht,Builtin.lenOf,sizeOf,typeInfo,hti,Builtin.firstCells,goInt]);simp only[Does,hr];refine⟨undef,Step.refl _ _,Qcs (fun k hk=>⟨.inl (Qan.2 hk),hM k (hfp k hk)⟩) ?_,rfl⟩;simp only[take_nil,cpy,ZS,drop_nil,Yh,take_zero];exact Qkd
 ·obtain⟨c0,c1,c2,hd,hdl⟩:=QjE hs;obtain⟨g0,g1,g2,_,hsl⟩:=QjE hs2;subst hv;obtain⟨ad,c,hc1⟩:∃ad c,cutV R.n (.slice (some ⟨b,0,none⟩) xs.length cap) lo hi=.slice ad ds.length c:=⟨_,_,by simp only[cutV,hdl];rfl⟩;obtain⟨ad2,c',hc2⟩:∃ad c,cutV R.n (.slice (some ⟨b,0,none⟩) xs.length cap) lo2 hi2=.slice ad ss.length c:=⟨_,_,by simp only[cutV,hsl];rfl⟩;obtain⟨m,hm⟩:∃m,m=Nat.min ss.length ds.length:=⟨_,rfl⟩;have hm1:m≤ss.length:=by rw[hm];exact Nat.min_le_left _ _
  have hm2:m≤ds.length:=by rw[hm];exact Nat.min_le_right _ _
  have hlox:lo.toNat+ds.length=hi.toNat:=by omega
  by_cases h0:m=0
  ·have hcp:cpy ds ss=ds:=by
    unfold cpy;have:ds=[]∨ss=[]:=by
     have h5:min ss.length ds.length=0:=by rw[h0] at hm;exact hm.symm
     rcases Nat.le_total ss.length ds.length with h | h
     ·right;exact ZO (by omega)
     ·left;exact ZO (by omega)
    rcases this with h | h
    ·rw[h];simp
    ·rw[h];simp
   have hxx:xs.take lo.toNat++cpy ds ss++xs.drop hi.toNat=xs:=by
    rw[hcp,hd,ZW];have:hi.toNat=lo.toNat+(hi.toNat - lo.toNat):=by omega
    conv=>lhs;rhs;rhs;rw[this,←drop_drop]
    rw[Yy,Yy]
   have hr:=hex (.int .i64 0) w (by
    rw[hc1,hc2];have e0:Nat.min ss.length ds.length=0:=by rw[←hm];exact h0
    cases ad<;>cases ad2<;>simp[Builtin.copy_,hta,run_underlying ht,Builtin.lenOf,sizeOf,typeInfo,hti,Builtin.firstCells,goInt,e0,loadCells,loadCellsFrom,storeCells])
   simp only[Does,hr];refine⟨undef,Step.refl _ _,Qcs (fun k hk=>⟨.inl (Qan.2 hk),hM k (hfp k hk)⟩) ?_,by rw[←hm,h0];rfl⟩;rw[hxx];refine Atom.keep _ (fun k hk=>?_) (fun _ _=>rfl) (fun _ _=>rfl) ho;refine Qc8 (Zx _) hgiv (fun B hB j hj=>?_) hk;obtain rfl:=Ze.1 hB;exact .inl (Qan.2 hj)
  ·have hdne:ds≠[]:=fun h=>by rw[h] at hm2;simp at hm2;exact h0 hm2
   have hsne:ss≠[]:=fun h=>by rw[h] at hm1;simp at hm1;exact h0 hm1
   have hk1:=QqH (m:=R.n) (b:=b) (n:=xs.length) hs hlc hdne;have hk2:=QqH (m:=R.n) (b:=b) (n:=xs.length) hs2 hlc hsne;obtain⟨vs,hvs,hcell⟩:=Qj9 _ _ (QAd ho hs2);have hvl:vs.length=ss.length * R.n:=by rw[hvs.1,Qap]
   have hmy:m * R.n≤ss.length * R.n:=Nat.mul_le_mul_right _ hm1;have hmd:m * R.n≤ds.length * R.n:=Nat.mul_le_mul_right _ hm2;have hnl:(vs.take (m * R.n)).length=m * R.n:=by simp;omega
   have hcells:QQ ((ss.flatMap R.cs).take (m * R.n)) (free M w) w (vs.take (m * R.n)):=⟨by simp[hvs.1],fun j T u hT hu=>by
    rw[getElem?_take] at hT hu;split at hT
    ·rw[Zc (by assumption)] at hu;exact hvs.2 j T u hT hu
    ·cases hT⟩
   have hone:∀u∈vs.take (m * R.n),u.oneCell'=true:=by
    intro u hu;obtain⟨j,hj⟩:=Yd.1 (mem_of_mem_take hu);have hjl:j<(ss.flatMap R.cs).length:=by rw[←hvs.1];exact (Zf.1 hj).1
    have hT:=hvs.2 j _ u (Zb hjl) hj;obtain⟨q,_,hq⟩:=ZG.1 (Zn hjl);exact R.one q _ hq _ w u hT
   have hfc:(Builtin.firstCells R.n m (.slice (some ⟨b,lo2.toNat * R.n,none⟩) ss.length (cap - lo2.toNat))).run P w=.ok (vs.take (m * R.n)).toArray w:=by
    have:=run_loadCells_list (P:=P) w ⟨b,lo2.toNat * R.n,none⟩ (vs.take (m * R.n)) (fun j u hj=>by
     rw[getElem?_take] at hj;split at hj
     ·rw[QaI];exact hcell j u hj
     ·cases hj)
    rw[hnl] at this;simpa[Builtin.firstCells] using this
   have hxn:(lo.toNat+ds.length) * R.n≤xs.length * R.n:=Nat.mul_le_mul_right _ (by omega);rw[Nat.add_mul] at hxn;have hcapn:xs.length * R.n≤cap * R.n:=Nat.mul_le_mul_right _ hlc;have hst:=run_storeCells_at P b (lo.toNat * R.n) e (vs.take (m * R.n)) 0 cur w hbk (by rw[hnl];omega) hone;simp only[Nat.add_zero] at hst;have hr:=hex (.int .i64 (Nat.min ss.length ds.length)) (w.setRow b (splice cur.toList (lo.toNat * R.n) (vs.take (m * R.n))).toArray) (by
    rw[hk1,hk2];have hlen:(Builtin.lenOf (.slice (some ⟨b,lo2.toNat * R.n,none⟩) ss.length (cap - lo2.toNat))).run P w=.ok ss.length w:=by simp[Builtin.lenOf]
    simp only[Builtin.copy_,hta,run_underlying ht,getElem?_toArray,getElem?_cons_zero,getElem?_cons_succ,Sem.run_bind,hlen,Zo,sizeOf,typeInfo,run_program,hti,Sem.run_pure,←hm,hsz,hfc,hst,goInt,splice])
   simp only[Does,hr];have heat:∀k,Qay [own R e xs (.slice (some ⟨b,0,none⟩) xs.length cap)] k↔k=b:=fun k=>by rw[Qan,Qbu]
   refine⟨undef,Qet ((heat b).2 rfl),Qcs (fun k hk=>?_) ?_,rfl⟩
   ·rw[Qbu] at hk;rw[hk];exact⟨.inl ((heat b).2 rfl),by simpa using (Array.getElem?_eq_some_iff.1 hbk).1⟩
   ·have hyl:(xs.take lo.toNat++cpy ds ss++xs.drop hi.toNat).length=xs.length:=by
     simp only[Zi,Yb,QsP,Ys];omega
    have key:∀F',(∀k,free M w k→F' k)→(own R e (xs.take lo.toNat++cpy ds ss++xs.drop hi.toNat) (.slice (some ⟨b,0,none⟩) (xs.take lo.toNat++cpy ds ss++xs.drop hi.toNat).length cap)).ok F' (w.setRow b (splice cur.toList (lo.toNat * R.n) (vs.take (m * R.n))).toArray):=?key
    ·have:=key _ (fun k hk=>Qc8 (w':=w.setRow b (splice cur.toList (lo.toNat * R.n) (vs.take (m * R.n))).toArray) (N:=[own R e (xs.take lo.toNat++cpy ds ss++xs.drop hi.toNat) (.slice (some ⟨b,0,none⟩) xs.length cap)]) (by simp) hgiv (fun B hB j hj=>by
      obtain rfl:=Ze.1 hB;rw[Qbu] at hj;exact .inl ((heat j).2 hj)) hk)
     rw[hyl] at this;exact this
    intro F' hF';refine QfH (cur:=(splice cur.toList (lo.toNat * R.n) (vs.take (m * R.n))).toArray) (setRow_heap w b cur _ e _ hbk) (by rw[hyl];exact hlc) hmx (by rw[size_toArray,Qe8 _ _ _ (by rw[hnl];simp;omega)];simpa using hcs) ?_;rw[hyl];have e0:∀ns:List Value,lo.toNat * R.n+ns.length≤xs.length * R.n→(splice cur.toList (lo.toNat * R.n) ns).take (xs.length * R.n)=splice (cur.toList.take (xs.length * R.n)) (lo.toNat * R.n) ns:=by
     intro ns hns;apply ext_getElem?;intro j;rw[getElem?_take,Qa4 _ _ _ _ (by simp;omega),Qa4 _ _ _ _ (by simp;omega),getElem?_take];by_cases hj:j<xs.length * R.n
     ·rw[Zc hj,Zc hj]
     ·rw[Zd hj,Zd hj,Zd (by omega)]
    have e1:=e0 (vs.take (m * R.n)) (by rw[hnl];omega);simp only;rw[e1];have e2:(xs.take lo.toNat++cpy ds ss++xs.drop hi.toNat).flatMap R.cs=splice (xs.flatMap R.cs) (lo.toNat * R.n) ((ss.flatMap R.cs).take (m * R.n)):=by
     have f0:cpy ds ss=ss.take m++ds.drop m:=by
      unfold cpy;have e3:ss.take ds.length=ss.take m:=by
       rw[hm]
       change _=ss.take (min ss.length ds.length)
       rcases Nat.le_total ss.length ds.length with h | h
       ·rw[Nat.min_eq_left h,ZD h,take_length]
       ·rw[Nat.min_eq_right h]
      have e4:ds.drop ss.length=ds.drop m:=by
       rw[hm]
       change _=ds.drop (min ss.length ds.length)
       rcases Nat.le_total ss.length ds.length with h | h
       ·rw[Nat.min_eq_left h]
       ·rw[Nat.min_eq_right h,drop_of_length_le h,drop_length]
      rw[e3,e4]
     have f1:xs.take lo.toNat++cpy ds ss++xs.drop hi.toNat=xs.take lo.toNat++ss.take m++xs.drop (lo.toNat+m):=by
      rw[f0,hd,drop_take,drop_drop];simp only[ZW];congr 2;have:hi.toNat=lo.toNat+m+(hi.toNat - lo.toNat - m):=by omega
      conv=>lhs;rhs;rw[this,←drop_drop]
      rw[Yy]
     have t1:=Row.flatMap_sub R xs 0 lo.toNat (by omega);simp only[drop_zero,Nat.zero_mul] at t1;have t2:=Row.flatMap_sub R ss 0 m (by omega);simp only[drop_zero,Nat.zero_mul] at t2;have t3:=Row.flatMap_sub R xs (lo.toNat+m) (xs.length - (lo.toNat+m)) (by omega);rw[ZD (l:=xs.drop (lo.toNat+m)) (by simp)] at t3;have t4:((xs.flatMap R.cs).drop ((lo.toNat+m) * R.n)).take ((xs.length - (lo.toNat+m)) * R.n)=(xs.flatMap R.cs).drop ((lo.toNat+m) * R.n):=ZD (by rw[Ys,Qap,Nat.sub_mul];exact Zx _);rw[f1,ZM,ZM,t1,t2,t3,t4];unfold splice;rw[Yb,Qap,Nat.min_eq_left hmy,Nat.add_mul]
    rw[e2];exact (hcl.splice hcells (by rw[Yb,Qap,Qap,Nat.min_eq_left hmy];omega)).keepE hF' (fun k hk=>setRow_other w b k _ (fun e=>hk.2 (hgiv k ((heat k).2 e))))
end
def tabV (x:Value):Value:=match x with | .tuple a=>a.getD 0 undef | _=>undef
def tabU (x:Value):List Value:=match x with | .tuple a=>(match a.getD 1 undef with | .agg us=>us.toList | _=>[]) | _=>[]
def tabX (v:Value) (us:List Value):Value:=.tuple #[v,.agg us.toArray]
def FnOk.roT {α:Type} {R:Rep α} {P:Program} {f:FuncId} {Ts:List Ty} {e1 e2:TypeId} {xss:List (List α)} {T:Value→Ty} {T':Ty} (h:FnOk P f Ts [] (fun x=>[own rVal e1 (tabU x) (tabV x),rows R e2 xss (tabU x)]) T)
  (hT:∀x F w v,(tsl (rSl R) xss).ok F w (tabV x)→(T x).ok F w v→T'.ok F w v):FnOk P f Ts [] (fun _=>[]) (fun _=>T'):=by
 intro M w vs hM hE hap hc;refine Calls.mono (h M w vs hM hE hap hc) ?_;rintro en w' ⟨x,v,he,hg,hN,hty⟩;have hfree:∀A,A∈([own rVal e1 (tabU x) (tabV x),rows R e2 xss (tabU x)]:List Atom)→∀k,A.fp k→free M w' k:=by
  intro A hA k hk;have:=hN.place A hA k hk;refine⟨this.2,fun hm=>?_⟩;have h2:=hM k hm;rcases this.1 with h | h
  ·rw[Qdx] at h;exact h
  ·omega
 have hsub:∀k,free (next M [] [own rVal e1 (tabU x) (tabV x),rows R e2 xss (tabU x)]) w' k→free M w' k:=by rintro k ⟨h1,h2⟩;exact⟨h1,fun hm=>h2 (.inl ⟨hm,fun h=>(by rw[Qdx] at h;exact h)⟩)⟩
 have hsl:(tsl (rSl R) xss).ok (free M w') w' (tabV x):=Qle (R:=R) (e1:=e1) (e2:=e2) hsub (hN.ok _ (.head _)) (hN.ok _ (.tail _ (.head _))) (hfree _ (.head _)) (hfree _ (.tail _ (.head _)));refine⟨undef,v,he,hg,Qes,?_⟩;simp only[Qhq];exact hT x _ _ _ hsl ((T x).keep hsub (fun _ _=>rfl) hty)
def Qx4 {α:Type} {R:Rep α} {xss:List (List α)} {Ts:List Ty}:∀x F w v,(tsl (rSl R) xss).ok F w (tabV x)→(ttup (tv (tabV x)::Ts)).ok F w v→(ttup (tsl (rSl R) xss::Ts)).ok F w v:=fun x F w v h ⟨us,hv,hc⟩=>by obtain⟨u,vs,rfl,hu,hcs⟩:=hc.inv;have:u=tabV x:=hu;subst this;exact⟨_,hv,.cons h hcs⟩
def Qvk {P:Program} {a:Act} {w:World} {x y:Code} {Q:Exit→Act→World→Prop} (h:y.wp P Q a w):(Code.cond (.const (.bool false)) x y).wp P Q a w:=wp_cond_false rfl h
def Fct.fnE {Γ:List (Nat×Ty)} {f:FuncId}:Fct Γ (.func f) (QaO f []):=fun F w a h=>⟨[],Fct.fn F w a h⟩
def tsn {α:Type} (R:Rep α) (xs:List α):Ty:=tand (tsl R xs) ⟨fun _ _ v=>xs=[]→v=.slice none 0 0,fun _ _ h=>h⟩
def ne {α:Type} (xs:List α):Option Unit:=match xs with | []=>none | _::_=>some ()
def ne_ok {α:Type} {xs:List α} {u:Unit} (h:ne xs=some u):xs≠[]:=by cases xs<;>simp[ne] at h ⊢
section
variable {Γ:List (Nat×Ty)} {P:Program} {d:Option Tmp} {ty:TypeId} {pos:String} {af:Array Edge} {g:Option (Nat×Bool)} {x y:Operand} {T:Ty} {t e:TypeId} {α:Type} {R:Rep α} {bytes:Nat} {z:Value} {xs ys:List α}
theorem Fct.nilsn:Fct Γ (.const (.slice none 0 0)) (tsn R ([]:List α)):=fun F w a h0=>⟨Fct.nilsl F w a h0,fun _=>rfl⟩
theorem Fct.sn {x:Operand} (h:Fct Γ x (tsl R xs)) (hne:xs≠[]):Fct Γ x (tsn R xs):=h.weak fun _ _ _ h=>⟨h,fun e=>(hne e).elim⟩
theorem Qvl {F:Blk} {w:World} {v:Value} (h:(tsn R xs).ok F w v):∃ad n c,v=.slice ad n c∧ad.isNone=xs.isEmpty:=by
 obtain⟨⟨ad,cap,hv,_,hr⟩,hn⟩:=h;refine⟨ad,xs.length,cap,hv,?_⟩
 cases xs with
 | nil=>have:=hn rfl;rw[hv] at this;simp only[Value.slice.injEq] at this;rw[this.1];rfl
 | cons u us=>obtain⟨b,off,ha,_⟩:=hr (by simp);rw[ha];rfl
theorem Qo7 {t2:TypeId} (ht:P.underlying t=some (.slice e)) (hx:Fct Γ x (tsn R xs)):OpJ P ⟨d,.binOp .eql t x (.const (.slice none 0 0)) t2,ty,pos,af,g⟩ Γ [] [] (fun _=>[]) (fun _=>tv (.bool xs.isEmpty)):=Qax fun F w a he=>by obtain⟨ad,n,c,hv,hn⟩:=Qvl (hx.use (by simp[Op.operands]) he);refine⟨.bool ad.isNone,?_,by rw[hn];rfl⟩;simp[execOp,hv,Qf4,eqGuard,binOp,QgE ht]
theorem Qo8 {t2:TypeId} (ht:P.underlying t=some (.slice e)) (hx:Fct Γ x (tsn R xs)):OpJ P ⟨d,.binOp .neq t x (.const (.slice none 0 0)) t2,ty,pos,af,g⟩ Γ [] [] (fun _=>[]) (fun _=>tv (.bool !xs.isEmpty)):=Qax fun F w a he=>by obtain⟨ad,n,c,hv,hn⟩:=Qvl (hx.use (by simp[Op.operands]) he);refine⟨.bool !ad.isNone,?_,by rw[hn];rfl⟩;simp[execOp,hv,Qf4,eqGuard,binOp,QgE ht]
theorem OpJ.ro {o:Oper} (h:OpJ P o Γ [] [] (fun v=>[own R e xs v]) (fun v=>tv v)):OpJ P o Γ [] [] (fun _=>[]) (fun _=>tsl R xs):=by
 intro M w a hM hU hE hap hUE he;refine (h M w a hM hU hE hap hUE he).mono ?_;rintro v w' ⟨x,hs,hm,hv⟩;have hv:v=x:=hv;subst hv;have hfp:=hm.place _ (Ze.2 rfl);have hok:=hm.ok _ (Ze.2 rfl);refine⟨undef,hs,Qes,?_⟩;simp only[Qhq];refine Qa0.own (x:=.const v) (Γ:=[]) (U:=[own R e xs v]) (R:=R) (e:=e) (xs:=xs) (v:=v) .k (by simp) (free (next M [] [own R e xs v]) w') (free M w') w' ⟨#[],[]⟩ (fun k ⟨h1,h2⟩=>⟨h1,fun hm=>h2 (.inl ⟨hm,fun h=>(by rw[Qdx] at h;exact h)⟩)⟩) (fun A hA=>?_) (fun p hp=>by simp at hp);obtain rfl:=Ze.1 hA;refine⟨hok,fun k hk=>⟨(hfp k hk).2,fun hm=>?_⟩⟩;have:=hM k hm;rcases (hfp k hk).1 with h | h
 ·rw[Qdx] at h;exact h
 ·omega
end
abbrev Str:=List UInt8
def sB (l:Str):ByteArray:=⟨l.toArray⟩
def QAe (b:ByteArray):b.size=b.data.toList.length:=rfl
def QeJ (l:Str):(sB l).size=l.length:=by simp[sB,ByteArray.size]
def QpS (b:ByteArray):∀(n i:Nat) (r:List UInt8),b.size - i=n→i≤b.size→ByteArray.toList.loop b i r=r.reverse++b.data.toList.drop i:=by
 intro n
 induction n with
 | zero=>
  intro i r h hi;unfold ByteArray.toList.loop;have:¬i<b.size:=by omega
  rw[Zd this];have h2:b.data.toList.length≤i:=by rw[←QAe];omega
  rw[drop_eq_nil_of_le h2,Yh]
 | succ n ih=>
  intro i r h hi;unfold ByteArray.toList.loop;have hlt:i<b.size:=by omega
  have hlt':i<b.data.toList.length:=hlt;rw[Zc hlt,ih (i+1) _ (by omega) (by omega),Yk hlt'];have:b.get! i=b.data.toList[i]:=by show b.data[i]! =_;rw[getElem!_pos b.data i hlt];rfl
  rw[this];simp
def Qo9 (l:Str):(sB l).toList=l:=by unfold ByteArray.toList;rw[QpS (sB l) _ 0 [] rfl (Nat.zero_le _)];rfl
def Qvm (a b:Str):sB a++sB b=sB (a++b):=by apply ByteArray.ext;simp[sB]
def Qkf (l:Str) (i j:Nat):(sB l).extract i j=sB ((l.drop i).take (j - i)):=by apply ByteArray.ext;simp[sB,extract_toArray]
def sB_get (l:Str) (i:Nat):(sB l)[i]?=l[i]?:=by
 by_cases h:i<l.length
 ·have h':i<(sB l).size:=by rw[QeJ];exact h
  rw[getElem?_pos (sB l) i h',getElem?_pos l i h];rfl
 ·have h':¬i<(sB l).size:=by rw[QeJ];exact h
  rw[getElem?_neg (sB l) i h',getElem?_neg l i h]
@[reducible] def rS : Rep Str := ⟨fun x => [tv (.string (sB x))],1,false,fun _ => rfl,fun x T h F w v hv => by simp at h; subst h; have : v = _ := hv; subst this; rfl,fun _ => rfl⟩
def cat (n:Nat):Option Unit:=if n≤9223372036854775807 then some () else none
section
variable {Γ:List (Nat×Ty)} {P:Program} {d:Option Tmp} {ty:TypeId} {pos:String} {af:Array Edge} {g:Option (Nat×Bool)} {x y:Operand} {T:Ty} {t t2 e:TypeId} {α:Type} {R:Rep α} {bytes:Nat} {z:Value} {a b:Str}
theorem QAf (hx:Fct Γ x (tv (.string (sB a)))) (hy:Fct Γ y (tv (.string (sB b)))):OpJ P ⟨d,.binOp .eql t x y t2,ty,pos,af,g⟩ Γ [] [] (fun _=>[]) (fun _=>tv (.bool (a==b))):=QbX hx hy fun w=>by simp[eqGuard,binOp,Op.stringOp,Qo9]
theorem QAg (hx:Fct Γ x (tv (.string (sB a)))) (hy:Fct Γ y (tv (.string (sB b)))):OpJ P ⟨d,.binOp .neq t x y t2,ty,pos,af,g⟩ Γ [] [] (fun _=>[]) (fun _=>tv (.bool (a !=b))):=QbX hx hy fun w=>by simp[eqGuard,binOp,Op.stringOp,Qo9,bne]
theorem Qfs (hx:Fct Γ x (tv (.string (sB a)))) (hy:Fct Γ y (tv (.string (sB b)))) (h:cat (a.length+b.length)=some ()):OpJ P ⟨d,.binOp .add t x y t2,ty,pos,af,g⟩ Γ [] [] (fun _=>[]) (fun _=>tv (.string (sB (a++b)))):=
 QbX hx hy fun w=>by
  have hl:¬(((sB a).size+(sB b).size:Nat):Int)>i64.max:=by
   unfold cat at h;split at h
   ·rename_i h';rw[QeJ,QeJ];simp[IntKind.max,IntKind.bits,IntKind.signed];omega
   ·cases h
  simp only[eqGuard,binOp,Op.stringOp];rw[Zd hl,Qvm];simp
theorem op_lenS' (ht:P.underlying t=some .string) (hx:Fct Γ x (tv (.string (sB a)))):OpJ P ⟨d,.call { callee:=.builtin .len,args:=#[x],argTypes:=#[t] },ty,pos,af,g⟩ Γ [] [] (fun _=>[]) (fun _=>tv (.int .i64 (a.length:Int))):=by
 have:=Qz0 (P:=P) (Γ:=Γ) (d:=d) (ty:=ty) (pos:=pos) (af:=af) (g:=g) ht hx
 rwa [QeJ] at this
theorem QjF {i:Int} {k:IntKind} {u:UInt8} (ht:P.underlying t=some .string) (hx:Fct Γ x (tv (.string (sB a)))) (hi:Fct Γ y (tv (.int k i))) (h:idx a i=some u):
  OpJ P ⟨d,.index t x y,ty,pos,af,g⟩ Γ [] [] (fun _=>[]) (fun _=>tv (.int .u8 (u.toNat:Int))):=
 Qax fun F w A he=>by
  have h1:=hx.val (by simp[Op.operands]) he;have h2:=hi.val (by simp[Op.operands]) he;unfold idx at h;split at h
  ·rename_i h0;refine⟨_,?_,rfl⟩;simp[execOp,h1,h2,Instr.index,asIntOf,run_underlying ht,h0,sB_get,h]
  ·cases h
theorem QAh {lo hi:Option Operand} {i j:Int} {r:Str} (ht:P.underlying t=some .string) (hx:Fct Γ x (tv (.string (sB a)))) (hlo:Bd Γ lo 0 i) (hhi:Bd Γ hi (a.length:Int) j) (h:sub a i j=some r):
  OpJ P ⟨d,.slice t x lo hi none,ty,pos,af,g⟩ Γ [] [] (fun _=>[]) (fun _=>tv (.string (sB r))):=
 Qax fun F w A he=>by
  have h1:=hx.val (by simp[Op.operands]) he;have h2:=hlo.use (fun y hy=>by simp[Op.operands,hy]) he;have h3:=hhi.use (fun y hy=>by simp[Op.operands,hy]) he;unfold sub at h;split at h
  ·rename_i h0;obtain⟨c1,c2,c3⟩:=h0;obtain rfl:=Zs h;refine⟨_,?_,rfl⟩;have hj:j≤((sB a).size:Int):=by rw[QeJ];exact c3
   have c2':i≤(j.toNat:Int):=by omega
   have hj0:0≤j:=by omega
   have hm:max j 0=j:=by omega
   have c2n:¬j<i:=by omega
   rcases h2 with⟨h2,rfl⟩ | ⟨k2,h2⟩<;>rcases h3 with⟨h3,rfl⟩ | ⟨k3,h3⟩
   ·simp[execOp,h1,h2,h3,Instr.sliceAt,Instr.slice,Instr.sliceBounds,run_underlying ht]
   ·simp[execOp,h1,h2,h3,Instr.sliceAt,Instr.slice,Instr.sliceBounds,Instr.sliceBound,asIntOf,run_underlying ht,Qkf,hj,hj0]
   ·simp[execOp,h1,h2,h3,Instr.sliceAt,Instr.slice,Instr.sliceBounds,Instr.sliceBound,asIntOf,run_underlying ht,Qkf,QeJ,c1,c2]
   ·simp[execOp,h1,h2,h3,Instr.sliceAt,Instr.slice,Instr.sliceBounds,Instr.sliceBound,asIntOf,run_underlying ht,Qkf,hj,hj0,c1,hm,c2]
  ·cases h
theorem Qf7 {Ts:List Ty} (hx:Fct Γ x (tptr Ts)):OpJ P ⟨d,.nilCheck x,ty,pos,af,g⟩ Γ [] [] (fun _=>[]) (fun _=>tptr Ts):=Qax fun F w A he=>by have h:=hx.use (by simp[Op.operands]) he;obtain⟨b,off,hv,r⟩:=h;exact⟨_,by simp[execOp,hv],b,off,rfl,r⟩
theorem Qa1 {Ts:List Ty} {q:Value} (hx:Fct Γ x (tv q)):OpJ P ⟨d,.nilCheck x,ty,pos,af,g⟩ Γ [box Ts q] [] (fun _=>[]) (fun _=>tv q):=QcH fun M w A hU he=>by have h:=hx.val (by simp[Op.operands]) he;obtain⟨b,cur,e,hq,_⟩:=hU _ (Ze.2 rfl);subst hq;exact⟨_,by simp[execOp,h],rfl⟩
theorem QiJ {n:Nat} {k:IntKind} {i:Int} {b off:Nat} (ht:P.underlying t=some (.array n e)) (hz:TOk P e R bytes z) (w:World) (h0:0≤i) (h1:i<n):
  (Instr.indexAt t (.pointer (some ⟨b,off,none⟩)) (.int k i)).run P w=.ok (.pointer (some ⟨b,off+i.toNat * R.n,none⟩)) w:=by
 obtain⟨ti,hti,_,hs,_⟩:=hz.info;simp[Instr.indexAt,Instr.sureAddr,run_underlying ht,asIntOf,h0,h1,sizeOf,typeInfo,hti,hs,QaI]
theorem QjG {n:Nat} {k:IntKind} {i:Int} {Ts:List Ty} (j:Nat) (hj:i=j) (ht:P.underlying t=some (.array n e)) (hz:TOk P e R bytes z) (hx:Fct Γ x (tptr Ts)) (hi:Fct Γ y (tv (.int k i))) (h1:j<n):
  OpJ P ⟨d,.indexAddr t x y,ty,pos,af,g⟩ Γ [] [] (fun _=>[]) (fun _=>tptr (Ts.drop (j * R.n))):=
 Qax fun F w A he=>by obtain⟨b,o,hv,hb,hr⟩:=hx.use (by simp[Op.operands]) he;have h2:=hi.val (by simp[Op.operands]) he;subst hj;refine⟨_,?_,b,o+j * R.n,rfl,hb,hr.part _⟩;simp only[execOp,hv,h2,Sem.run_bind,QiJ ht hz w (Int.natCast_nonneg j) (Int.ofNat_lt.2 h1),Zo,Sem.run_pure,Zr]
inductive AnyV where
 | int (n:Int)
 | str (s:Str)
deriving Inhabited
def AnyV.val (ti ts:TypeId):AnyV→Value
 | .int n=>.iface ti (.int .i64 n)
 | .str s=>.iface ts (.string (sB s))
@[reducible] def rAny (ti ts : TypeId) : Rep AnyV := ⟨fun x => [tv (x.val ti ts)],1,false,fun _ => rfl,fun x T h F w v hv => by simp at h; subst h; have : v = _ := hv; subst this; cases x <;> rfl,fun _ => rfl⟩
def AnyV.asInt:AnyV→Int×Bool | .int n=>(n,true) | .str _=>(0,false)
def AnyV.asStr:AnyV→Str×Bool | .int _=>([],false) | .str s=>(s,true)
theorem QiK {ti ts:TypeId} {n:Int} (ht:P.underlying ti=some (.int .i64)) (hx:Fct Γ x (tv (.int .i64 n))):OpJ P ⟨d,.makeInterface ti x,ty,pos,af,g⟩ Γ [] [] (fun _=>[]) (fun _=>tv (AnyV.val ti ts (.int n))):=Qax fun F w A he=>⟨_,by simp[execOp,Instr.makeInterface,run_underlying ht,hx.val (by simp[Op.operands]) he,AnyV.val],rfl⟩
theorem QjH {ti ts:TypeId} {s:Str} (ht:P.underlying ts=some .string) (hx:Fct Γ x (tv (.string (sB s)))):OpJ P ⟨d,.makeInterface ts x,ty,pos,af,g⟩ Γ [] [] (fun _=>[]) (fun _=>tv (AnyV.val ti ts (.str s))):=Qax fun F w A he=>⟨_,by simp[execOp,Instr.makeInterface,run_underlying ht,hx.val (by simp[Op.operands]) he,AnyV.val],rfl⟩
theorem op_asI {ti ts:TypeId} {u:AnyV} (hne:ti≠ts) (hz:TOk P ti rI 8 (.int .i64 0)) (ht:P.underlying ti=some (.int .i64)) (hx:Fct Γ x (tv (u.val ti ts))):OpJ P ⟨d,.typeAssert x t ti true,ty,pos,af,g⟩ Γ [] [] (fun _=>[]) (fun _=>ttup [tv (.int .i64 u.asInt.1),tv (.bool u.asInt.2)]):=
 Qax fun F w A he=>by
  have h:=hx.val (by simp[Op.operands]) he;obtain⟨i,hi,hz0,_⟩:=hz.info
  cases u with
  | int n=>exact⟨_,by simp[execOp,Instr.typeAssert,h,AnyV.val,run_underlying ht],[.int .i64 n,.bool true],rfl,.cons rfl (.cons rfl .nil)⟩
  | str s=>exact⟨_,by simp[execOp,Instr.typeAssert,h,AnyV.val,run_underlying ht,Ne.symm hne,zeroValue,typeInfo,hi,hz0],[.int .i64 0,.bool false],rfl,.cons rfl (.cons rfl .nil)⟩
theorem op_asS {ti ts:TypeId} {u:AnyV} (hne:ti≠ts) (hz:TOk P ts rS 16 (.string .empty)) (ht:P.underlying ts=some .string) (hx:Fct Γ x (tv (u.val ti ts))):OpJ P ⟨d,.typeAssert x t ts true,ty,pos,af,g⟩ Γ [] [] (fun _=>[]) (fun _=>ttup [tv (.string (sB u.asStr.1)),tv (.bool u.asStr.2)]):=
 Qax fun F w A he=>by
  have h:=hx.val (by simp[Op.operands]) he;obtain⟨i,hi,hz0,_⟩:=hz.info
  cases u with
  | int n=>exact⟨_,by simp[execOp,Instr.typeAssert,h,AnyV.val,run_underlying ht,hne,zeroValue,typeInfo,hi,hz0],[.string .empty,.bool false],rfl,.cons rfl (.cons rfl .nil)⟩
  | str s=>exact⟨_,by simp[execOp,Instr.typeAssert,h,AnyV.val,run_underlying ht],[.string (sB s),.bool true],rfl,.cons rfl (.cons rfl .nil)⟩
def tfn (P:Program) (E:List Atom) {A B:Type} (Ts:A→List Ty) (Tr:B→Ty) (p:A→Option B):Ty:=⟨fun F w v=>∃(f:FuncId) (Tf Tc:List Ty) (fs cs:List Value),v=.func (.func f) fs.toArray cs.toArray∧QQ Tf F w fs∧QQ Tc F w cs∧Qj P f∧∀x b,p x=some b→FnOk P f (Tf++(Ts x++Tc)) E (fun _=>[]) (fun _=>Tr b),fun hF hh ⟨f,Tf,Tc,fs,cs,h,h1,h2,r⟩=>⟨f,Tf,Tc,fs,cs,h,QQ.keep hF hh h1,QQ.keep hF hh h2,r⟩⟩
theorem QeK {E:List Atom} {A B:Type} {Ts:A→List Ty} {Tr:B→Ty} {p:A→Option B} {f:FuncId} {Tc:List Ty} (hc:Qj P f) (h:∀x b,p x=some b→FnOk P f (Ts x++Tc) E (fun _=>[]) (fun _=>Tr b)):∀F w v,(QaO f Tc).ok F w v→(tfn P E Ts Tr p).ok F w v:=fun _ _ _ ⟨cs,hv,hcs⟩=>⟨f,[],Tc,[],cs,hv,.nil,hcs,hc,h⟩
theorem QbZ {E:List Atom} {A B:Type} {Ts:A→List Ty} {Tr:B→Ty} {p:A→Option B}:One (tfn P E Ts Tr p):=fun _ _ _ ⟨_,_,_,_,_,h,_⟩=>by rw[h];rfl
theorem Qvn {f:Operand} {fid:FuncId} {fs caps:List Value} {xs:List Operand} {ts:Array TypeId} {w:World} {a:Act} (hc:Qj P fid) (hf:a.eval f=.func (.func fid) fs.toArray caps.toArray):
  (execOp a.eval (⟨d,.call { callee:=.value f,args:=xs.toArray,argTypes:=ts },ty,pos,af,g⟩:Oper)).run P w=.ok (.enter fid (fs++(xs.map a.eval++caps)).toArray) w:=by
 obtain⟨fn,h1,h2,h3⟩:=hc;simp only[execOp,resolve,Deferred.ofValue,hf,invoke,callFunc,Sem.run_bind,Sem.run_pure,run_program,Zo,h1,h2,h3,ZU,if_false,map_toArray];simp
end
def Qft {α:Type} (R:Rep α) {x:α}:∀T,T∈R.cs x→One T:=fun T h=>R.one x T h
def Qd4 {Ts Us:List Ty} (h:∀T,T∈Ts→One T) (k:∀T,T∈Us→One T):∀T,T∈Ts++Us→One T:=fun T hT=>(Zp.1 hT).elim (h T) (k T)
@[reducible] def rAgg (Us : List Ty) (h : ∀ T,T ∈ Us → One T) : Rep Unit := ⟨fun _ => Us,Us.length,true,fun _ => rfl,fun _ => h,fun h => by cases h⟩
theorem tokA {P:Program} {t:TypeId} {α:Type} {R:Rep α} {b:Nat} {z:Value} (hz:TOk P t R b z) {Us:List Ty} (h:∀T,T∈Us→One T) (hn:Us.length=R.n) (ha:R.agg=true):TOk P t (rAgg Us h) b z:=⟨by obtain⟨d,h1,h2⟩:=hz.d;exact⟨d,h1,h2.trans ha⟩,by show _=some (some z,Us.length,b);rw[hn];exact hz.i,by show _=Us.length;rw[hn];exact hz.zc⟩
def gh (x:Value) (i:Nat):Value:=match x with | .tuple a=>a.getD i undef | _=>undef
section
variable {Γ:List (Nat×Ty)} {P:Program} {d:Option Tmp} {ty:TypeId} {pos:String} {af:Array Edge} {g:Option (Nat×Bool)} {x y:Operand} {T:Ty} {t e:TypeId} {α:Type} {R:Rep α} {bytes:Nat} {z:Value}
theorem Fct.nilV:Fct Γ (.const (.slice none 0 0)) (rVal.ty nilV):=fun _ _ _ _=>⟨rfl,rfl⟩
theorem Qbf {Ts:List Ty} {q u:Value} {off:Nat} (hz:TOk P t rVal bytes z) (hp:Fct Γ x (tv (padd q off))) (h:rVal.cs u=(Ts.drop off).take (rVal.cs u).length):OpJ P ⟨d,.load t x,ty,pos,af,g⟩ Γ [box Ts q] [] (fun _=>[]) (fun _=>tv u):=QjD (QbN (R:=rVal) (u:=u) hz hp h) (fun _ _ _ _ h=>h.1)
theorem Qc1 {q u':Value} {xs:List α} {Ts:List Ty} (hz:TOk P t rVal bytes z) (hp:Fct Γ x (tv q)) (hx:Fct Γ y (tv u')) (hl:1≤Ts.length):OpJ P ⟨d,.store t x y,ty,pos,af,g⟩ Γ [own R e xs u'] [box Ts q] (fun _=>[box (splice Ts 0 (rVal.cs u')) q]) (fun _=>tany):=.say (A:=own R e xs u') (by simp) (fun _ _ h=>QgV h) fun hu=>(QaB (R:=rVal) (a:=u') (Ts:=Ts) hz hp (hx.weak fun _ _ _ h=>⟨h,hu⟩) hl).useMore (fun A hA=>by cases hA)
theorem Qgm {q u':Value} {xs:List α} {Ts:List Ty} {off:Nat} (hz:TOk P t rVal bytes z) (hp:Fct Γ x (tv (padd q off))) (hx:Fct Γ y (tv u')) (hl:off+1≤Ts.length):OpJ P ⟨d,.store t x y,ty,pos,af,g⟩ Γ [own R e xs u'] [box Ts q] (fun _=>[box (splice Ts off (rVal.cs u')) q]) (fun _=>tany):=.say (A:=own R e xs u') (by simp) (fun _ _ h=>QgV h) fun hu=>(Qg6 (R:=rVal) (a:=u') (Ts:=Ts) (off:=off) hz hp (hx.weak fun _ _ _ h=>⟨h,hu⟩) hl).useMore (fun A hA=>by cases hA)
theorem QfJ {β:Type} {R2:Rep β} {f:β} {xs:List α} {u:α} {v:Value} {i:Int} {off:Nat} (hz:TOk P t R2 bytes z) (hp:Fct Γ x (tv (padd (Qa9 v (i.toNat * R.n)) off))) (h:idx xs i=some u) (hf:R2.cs f=((R.cs u).drop off).take (R2.cs f).length):
  OpJ P ⟨d,.load t x,ty,pos,af,g⟩ Γ [own R e xs v] [] (fun _=>[]) (fun _=>R2.ty f):=
 QcH fun M w a hU he=>by
  have hv:=hp.val (by simp[Op.operands]) he;obtain⟨us,hc,hh⟩:=Qns (hU _ (Ze.2 rfl));unfold idx at h;split at h
  ·have hlt:i.toNat<xs.length:=(Zf.1 h).1;rcases hh with⟨_,hn⟩ | ⟨b,cap,hvv,hcell⟩
   ·rw[hn] at hlt;simp at hlt
   ·subst hvv;have hrow:Row (xs.flatMap R.cs) (free M w) w b 0:=fun j T hj=>by
     have hlt:j<us.length:=by rw[hc.1];exact (Zf.1 hj).1
     exact⟨us[j],by rw[Nat.zero_add];exact hcell j _ (Zb hlt),hc.2 j T _ hj (Zb hlt)⟩
    have hr:=((hrow.elem h).part off).head hf;rw[Nat.zero_add] at hr;obtain⟨v',hrun,hty⟩:=Qe7 hz hr;refine⟨v',?_,hty⟩;simp only[execOp,hv,Qa9,padd,QaI,Sem.run_bind,Nat.zero_add] at hrun ⊢;simp only[hrun,Zo,Sem.run_pure]
  ·cases h
theorem OpJ.roE {o:Oper} {U E:List Atom} {xs:List α} (h:OpJ P o Γ U E (fun v=>[own R e xs v]) (fun v=>tv v)):OpJ P o Γ U E (fun _=>[]) (fun _=>tsl R xs):=by
 intro M w a hM hU hE hap hUE he;refine (h M w a hM hU hE hap hUE he).mono ?_;rintro v w' ⟨x,hs,hm,hv⟩;have hv:v=x:=hv;subst hv;have hok:=hm.ok _ (Ze.2 rfl);refine⟨undef,hs,Qes,?_⟩;have hfree:∀k,(own R e xs v).fp k→free (next M E []) w' k:=by
  intro k hk;obtain⟨h1,h2⟩:=hm.place _ (Ze.2 rfl) k hk;refine⟨h2,?_⟩;rintro (⟨hm1,hm2⟩ | ⟨A,hA,_⟩)
  ·rcases h1 with h1 | h1
   ·exact hm2 h1
   ·have:=hM k hm1;omega
  ·cases hA
 have hsub:∀k,free (next M E [own R e xs v]) w' k→free (next M E []) w' k:=by
  rintro k ⟨h1,h2⟩;refine⟨h1,?_⟩;rintro (hm1 | ⟨A,hA,_⟩)
  ·exact h2 (.inl hm1)
  ·cases hA
 exact Qa0.own (x:=.tmp 0) (Γ:=[(0,tv v)]) (U:=[own R e xs v]) (R:=R) (e:=e) (xs:=xs) (v:=v) (Fct.t 0 rfl) (by simp) _ _ w' ⟨#[v],[]⟩ hsub (fun A hA=>by simp at hA;subst hA;exact⟨hok,hfree⟩) (fun p hp _=>by simp at hp;subst hp;rfl)
theorem OpJ.gloG {o:Oper} {G:Atom} (h0:∀k,¬G.fp k) {U E:List Atom} {N:Value→List Atom} {T:Value→Ty} (h:OpJ P o Γ U (G::E) N T):OpJ P o Γ (G::U) E N T:=by
 have e1:Qay (G::E)=Qay E:=by
  funext k
  refine propext ⟨?_,?_⟩
  ·rintro ⟨A,hA,hk⟩;rcases Zm.1 hA with rfl | hA
   ·exact (h0 k hk).elim
   ·exact⟨A,hA,hk⟩
  ·rintro ⟨A,hA,hk⟩;exact⟨A,by simp[hA],hk⟩
 intro M w a hM hU hE hap hUE he;refine (h M w a hM (fun A hA=>hU A (by simp[hA])) (fun A hA=>?_) ?_ (fun A hA B hB k hk=>?_) he).mono ?_
 ·rcases Zm.1 hA with rfl | hA
  ·exact hU A (by simp)
  ·exact hE A hA
 ·exact pairwise_cons.2 ⟨fun B _ k hk=>(h0 k hk).elim,hap⟩
 ·rcases Zm.1 hB with rfl | hB
  ·exact h0 k
  ·exact hUE A (by simp[hA]) B hB k hk
 ·rintro v w' ⟨x,hs,hm,ht⟩;rw[e1] at hs;have e2:∀N,next M (G::E) N=next M E N:=fun N=>by funext k;simp only[next,e1]
  rw[e2] at ht;exact⟨x,hs,⟨hm.apart,fun A hA k hk=>by have:=hm.place A hA k hk;rwa [e1] at this,fun A hA=>by have:=hm.ok A hA;rwa [e2] at this⟩,ht⟩
theorem Qa0.boxR {U:List Atom} {Ts:List Ty} {q:Value} (h:Fct Γ x (tv q)) (hU:Sim.box Ts q∈U):Qa0 Γ U x (tptr Ts):=fun F F' w a hF hA h0=>(Qa0.box h hU F F' w a hF hA h0).2
theorem Qa0.cloL {U:List Atom} {f:FuncId} {Tc Tc':List Ty} {T:Ty} (h:Fct Γ x (QaO f Tc)) (hl:Qke U Tc Tc') (ht:∀F w v,(QaO f Tc').ok F w v→T.ok F w v):Qa0 Γ U x T:=fun F F' w a hF hA h0=>by obtain⟨caps,hv,hc⟩:=h F w a h0;exact ht _ _ _ ⟨caps,hv,hl.cells hF hA hc⟩
theorem QiL {E:List Atom} {A B:Type} {Ts:A→List Ty} {Tr:B→Ty} {p:A→Option B} {f:Operand} {xs:List Operand} {u:A} {b:B} {ts:Array TypeId} (hf:Fct Γ f (tfn P E Ts Tr p)) (ha:Args Γ [] xs (Ts u)) (h:p u=some b):
  OpJ P ⟨d,.call { callee:=.value f,args:=xs.toArray,argTypes:=ts },ty,pos,af,g⟩ Γ [] E (fun _=>[]) (fun _=>Tr b):=by
 intro M w a hM hU hE hap hUE he;obtain⟨fid,Tf,Tc,fs,caps,hv,hfs,hcap,hc,hok⟩:=hf.use (by simp[Op.operands,Call.operands]) he;have hargs:=ha.cells (F:=free M w) (F':=free M w) (a:=a) (fun _ h=>h) (fun A hA=>by simp at hA) (fun p hp hx=>he p hp (by simp[Op.operands,Call.operands,hx]));have hr:=Qvn (ty:=ty) (pos:=pos) (af:=af) (g:=g) (d:=d) (xs:=xs) (ts:=ts) (w:=w) hc hv;simp only[Does,hr];refine Calls.mono (hok u b h M w _ hM hE hap (hfs.append (hargs.append hcap))) ?_;rintro en w' ⟨x0,v,hen,h⟩;exact⟨v,hen,x0,h⟩
def QW (s:Str):List Int:=s.map fun b=>(b.toNat:Int)
theorem Qgn:∀(s:List Int),(s.flatMap (rInt .u8).cs)=s.map fun b=>tv (.int .u8 b)
 | []=>rfl
 | b::s=>by rw[flatMap_cons,Qgn s];rfl
theorem op_s2b {s:Str} {t2:TypeId} {u:TypeDesc} (hs:P.underlying t=some u) (ht:P.underlying t2=some (.slice e)) (he:P.underlying e=some (.int .u8)) (hx:Fct Γ x (tv (.string (sB s)))):
  OpJ P ⟨d,.convert t t2 x,ty,pos,af,g⟩ Γ [] [] (fun _=>[]) (fun _=>tsl (rInt .u8) (QW s)):=
 Qoo fun F w a hF hen=>by
  have hv:=hx.val (by simp[Op.operands]) hen;refine⟨_,_,by simp only[execOp,hv,Sem.run_bind,Lib.run_convert_string_bytes w t t2 e (sB s) hs ht he,Zo,Sem.run_pure];rfl,?_,fun F' h1 h2=>?_⟩
  ·exact⟨rfl,rfl,rfl,by rw[Lib.bytesWorld_size];omega,fun k hk _=>Lib.bytesWorld_at_old w e (sB s) k hk⟩
  ·refine⟨some ⟨w.heap.size,0,none⟩,grownCap w (sB s).size 0 e,?_,?_,fun _=>⟨w.heap.size,0,rfl,h2 _ (Zx _) (by rw[Lib.bytesWorld_size];omega),fun j T hj=>?_⟩⟩
   ·simp[QW,QeJ]
   ·rw[show (QW s).length=s.length by simp[QW]];rw[QeJ];exact grownCap_ge _ _ _ _
   ·rw[Qgn] at hj;have hj':j<s.length:=by
     have:=(Zf.1 hj).1;simpa[QW] using this
    refine⟨_,by rw[Nat.zero_add];exact Lib.bytesWorld_cell w e (sB s) j (by rw[QeJ];exact hj'),?_⟩;simp only[QW,Yw] at hj;simp[hj'] at hj;subst hj;show _=_;simp[sB,Zh,hj']
end
section
variable {M:Fr} {w0:World} {n:Nat} {Γ:List (Nat×Ty)} {As:List Atom} {a:Act} {w:World}
theorem St.shareC {α:Type} {R:Rep α} {e:TypeId} {xs:List α} {v q:Value} {Ts:List Ty} (k:Nat) (h:St M w0 n Γ (Sim.own R e xs v::box Ts q::As) a w) (hk:Ts[k]?=some (tvs v)):St M w0 n Γ (box (Ts.set k (tsl R xs)) q::As) a w:=by
 have hf:∀j,fps (box (Ts.set k (tsl R xs)) q::As) j→fps (Sim.own R e xs v::box Ts q::As) j:=by
  rintro j ⟨A,hA,hj⟩;rcases Zm.1 hA with rfl | hA
  ·exact⟨box Ts q,by simp,hj⟩
  ·exact⟨A,by simp[hA],hj⟩
 have hfree:∀j,free (hold M.m (Sim.own R e xs v::box Ts q::As)) w j→free (hold M.m (box (Ts.set k (tsl R xs)) q::As)) w j:=fun j hj=>⟨hj.1,fun hm=>hj.2 (hm.imp id (hf j))⟩;have hown:=h.own (Sim.own R e xs v) (by simp);have hbox:=h.own (box Ts q) (by simp);have hap:=pairwise_cons.1 h.apart;have hfp:∀j,(Sim.own R e xs v).fp j→free (hold M.m (box (Ts.set k (tsl R xs)) q::As)) w j:=by
  intro j hj;have hfr:=h.fresh _ (Zk) j hj;refine⟨hfr.2,?_⟩;rintro (hm | ⟨A,hA,hkA⟩)
  ·have:=h.m0 j hm;rcases hfr.1 with hb | hb
   ·exact this.2 hb
   ·omega
  ·rcases Zm.1 hA with rfl | hA
   ·exact hap.1 (box Ts q) (by simp) j hj hkA
   ·exact hap.1 A (by simp[hA]) j hj hkA
 have hsl:(tsl R xs).ok (free (hold M.m (box (Ts.set k (tsl R xs)) q::As)) w) w v:=Qa0.own (x:=.tmp 0) (Γ:=[(0,tv v)]) (U:=[Sim.own R e xs v]) (R:=R) (e:=e) (xs:=xs) (v:=v) (Fct.t 0 rfl) (by simp) _ _ w ⟨#[v],[]⟩ hfree (fun A hA=>by simp at hA;subst hA;exact⟨hown,hfp⟩) (fun p hp _=>by simp at hp;subst hp;rfl);refine⟨h.size,h.defers,h.grow,h.m0,?_,?_,?_,fun p hp=>p.2.keep hfree (fun _ _=>rfl) (h.slots p hp)⟩
 ·intro A hA;rcases Zm.1 hA with rfl | hA
  ·obtain⟨b,cur,e',hq,hb,hc,h1⟩:=hbox;refine⟨b,cur,e',hq,hb,⟨by rw[hc.1];simp,fun j T u hT hu=>?_⟩,h1⟩;by_cases hj:k=j
   ·subst hj;have hlt:k<Ts.length:=(Zf.1 hk).1;simp[hlt] at hT;subst hT;have hu':u=v:=(hc.2 k _ u hk hu).1;rw[hu'];exact hsl
   ·rw[getElem?_set_ne hj] at hT;exact T.keep hfree (fun _ _=>rfl) (hc.2 j T u hT hu)
  ·exact A.keep hfree (fun _ _=>rfl) (fun _ _=>rfl) (h.own A (by simp[hA]))
 ·intro A hA j hj;rcases Zm.1 hA with rfl | hA
  ·exact h.fresh (box Ts q) (by simp) j hj
  ·exact h.fresh A (by simp[hA]) j hj
 ·have h2:=pairwise_cons.1 hap.2;exact pairwise_cons.2 ⟨fun B hB j hj=>h2.1 B hB j hj,h2.2⟩
end
def QcU {x:Value}:One (tvs x):=fun F w v hv=>by obtain⟨h1,h2⟩:=hv;rw[h1];exact h2
def tfo {β:Type} (T:β→Ty) (p:Option β):Ty:=match p with | none=>tv .nilFunc | some f=>T f
def Qfu {β:Type} {T:β→Ty} {p:Option β} (h:∀f,One (T f)):One (tfo T p):=by
 cases p with
 | none=>exact Q1 rfl
 | some f=>exact h f
def Ql3 {A B:Type} (p:Option (A→Option B)) (u:A):Option B:=p.bind fun f=>f u
def Qoq {P:Program} {M:Fr} {M0:Blk} {w0:World} {n:Nat} {Γ:List (Nat×Ty)} {As:List Atom} {a:Act} {w:World} {fn:Func} {rs:List ResultVar} {Ts:List Ty} {E:List Atom} {N:Value→List Atom} {T:Value→Ty} (x:Value) (is:List Nat) (hpl:Qbd M0 E M) (hst:St M w0 n Γ As a w) (hrs:fn.results=rs.toArray) (h:Qdu P Γ As rs Ts) (hd:Qa8 is=true) (hN:is.filterMap (fun i=>As[i]?)=N x) (hT:T x=Qid Ts):Ret P fn M0 E w0 N T .normal a w:=Qea x is hpl hst hrs h hd hN hT
def Qkg {F:Blk} {w:World}:∀{Ts:List Ty} {us:List Value} (_:QQ Ts F w us) (vs:List Value),Ts=vs.map tv→(tv (.agg vs.toArray)).ok F w (.agg us.toArray)
 | Ts,us,hc,vs,h=>by
  subst h;have:us=vs:=by
   refine ext_getElem? fun j=>?_;have hl:us.length=vs.length:=by simpa using hc.1
   rcases Nat.lt_or_ge j vs.length with hj | hj
   ·have:=hc.2 j (tv vs[j]) us[j] (by simp[hj]) (Zb (by omega));rw[Zb (by omega),Zb hj];exact ZF some this
   ·rw[getElem?_eq_none (by omega),getElem?_eq_none hj]
  subst this;rfl
def gloA (l:List (Nat×List Ty)):Atom:=⟨fun _=>False,fun F w=>∀p∈l,F p.1∧∃cur e fz,w.heap[p.1]?=some (.cells cur e fz)∧QQ p.2 F w cur.toList,fun hF hh _ h p hp=>⟨hF _ (h p hp).1,let⟨cur,e,fz,h1,h2⟩:=(h p hp).2;⟨cur,e,fz,by rw[hh _ (h p hp).1];exact h1,h2.keep hF hh⟩⟩⟩
def Ql4 (G:Atom) (g:Nat) (Ts:List Ty):Prop:=∀F w,G.ok F w→F g∧∃cur e fz,w.heap[g]?=some (.cells cur e fz)∧QQ Ts F w cur.toList
def Qlf (G:Atom) (g:Nat) (Ts:List Ty):Prop:=∀F w,G.ok F w→F g∧Row Ts F w g 0
def Qor {l:List (Nat×List Ty)} {g:Nat} {Ts:List Ty} (h:(g,Ts)∈l):Ql4 (gloA l) g Ts:=fun _ _ hg=>hg (g,Ts) h
def Ql4.has {G:Atom} {g:Nat} {Ts:List Ty} (h:Ql4 G g Ts):Qlf G g Ts:=fun F w hg=>by
 obtain⟨h1,cur,e,fz,h2,h3⟩:=h F w hg;refine⟨h1,fun j T hj=>?_⟩;have hlt:j<cur.toList.length:=by rw[h3.1];exact (Zf.1 hj).1
 refine⟨cur.toList[j],?_,h3.2 j T _ hj (Zb hlt)⟩;have:j<cur.size:=by simpa using hlt
 simp[World.cell?,h2,this]
def Qb7:List (Value×Value)→Int→Option Value
 | [],_=>none
 | (.int .i64 k,v)::es,i=>if i=k then some v else Qb7 es i
 | _::es,i=>Qb7 es i
def Qiw (es:List (Value×Value)):Bool:=es.all fun p=>match p.1 with | .int .i64 _=>true | _=>false
def Ql5 (es:List (Value×Value)):Ty:=⟨fun F w v=>∃r ms c,v=.map (some r)∧F r∧w.heap[r]?=some (.map ms c)∧Qiw (ms.toList.map fun e=>(e.key,e.val))=true∧∀i,Qb7 (ms.toList.map fun e=>(e.key,e.val)) i=Qb7 es i,fun hF hh ⟨r,ms,c,h1,h2,h3,h4⟩=>⟨r,ms,c,h1,hF r h2,by rw[hh r h2];exact h3,h4⟩⟩
def QAi {es:List (Value×Value)}:One (Ql5 es):=fun _ _ _ ⟨_,_,_,h,_⟩=>by rw[h];rfl
@[reducible] def rMapC (es : List (Value × Value)) : Rep Unit := ⟨fun _ => [Ql5 es],1,false,fun _ => rfl,fun _ => Qp QAi Qaf,fun _ => rfl⟩
section
variable {Γ:List (Nat×Ty)} {P:Program} {d:Option Tmp} {ty:TypeId} {pos:String} {af:Array Edge} {g:Option (Nat×Bool)} {x y:Operand} {T:Ty} {t e:TypeId} {α:Type} {R:Rep α} {bytes:Nat} {z:Value} {G:Atom}
theorem Qx5 {k:Nat} {u:α} {Ts:List Ty} (hG:Qlf G k Ts) (hz:TOk P t R bytes z) (h:R.cs u=Ts.take (R.cs u).length):OpJ P ⟨d,.load t (.global k),ty,pos,af,g⟩ Γ [G] [] (fun _=>[]) (fun _=>R.ty u):=QcH fun M w a hU he=>by obtain⟨_,hr⟩:=hG _ _ (hU _ (Ze.2 rfl));obtain⟨v,hrun,hty⟩:=Qe7 hz (hr.head h);refine⟨v,?_,hty⟩;have e:a.eval (.global k)=.pointer (some ⟨k,0,none⟩):=rfl;simp only[execOp,e,Sem.run_bind,hrun,Zo,Sem.run_pure]
theorem Qx6 {k n:Nat} {kk:IntKind} {i:Int} {xs:List α} {u:α} {Ts:List Ty} (ht:P.underlying t=some (.array n e)) (hz:TOk P e R bytes z) (hG:Qlf G k Ts) (hT:Ts=xs.flatMap R.cs) (hi:Fct Γ y (tv (.int kk i))) (hn:xs.length=n) (h:idx xs i=some u):
  OpJ P ⟨d,.indexAddr t (.global k) y,ty,pos,af,g⟩ Γ [G] [] (fun _=>[]) (fun _=>tptr (R.cs u)):=
 QcH fun M w a hU he=>by
  obtain⟨hF,hr⟩:=hG _ _ (hU _ (Ze.2 rfl));subst hT;have h2:=hi.val (by simp[Op.operands]) he;have e:a.eval (.global k)=.pointer (some ⟨k,0,none⟩):=rfl;unfold idx at h;split at h
  ·rename_i h0;have hlt:i.toNat<xs.length:=(Zf.1 h).1;refine⟨_,?_,k,0+i.toNat * R.n,rfl,hF,hr.elem h⟩;simp only[execOp,e,h2,Sem.run_bind,QiJ ht hz w h0 (show i<(n:Int) by omega),Zo,Sem.run_pure]
  ·cases h
theorem Qx7 {E:List Atom} {A B:Type} {Ts:A→List Ty} {Tr:B→Ty} {β:Type} {q:β→A→Option B} {p:Option β} {f:Operand} {xs:List Operand} {u:A} {b:B} {ts:Array TypeId} (hf:Fct Γ f (tfo (fun r=>tfn P E Ts Tr (q r)) p)) (ha:Args Γ [] xs (Ts u)) (h:(p.bind fun r=>q r u)=some b):
  OpJ P ⟨d,.call { callee:=.value f,args:=xs.toArray,argTypes:=ts },ty,pos,af,g⟩ Γ [] E (fun _=>[]) (fun _=>Tr b):=by
 cases p with
 | none=>cases h
 | some r=>exact QiL (p:=q r) hf ha h
theorem QmB (i:Int):∀(ms:List MapEntry) (n:Nat),Qiw (ms.map fun e=>(e.key,e.val))=true→
  (Instr.findNow (.int .i64) (.int .i64 i) ms n).map (Option.map (·.2))=some (Qb7 (ms.map fun e=>(e.key,e.val)) i)
 | [],n,_=>rfl
 | m::ms,n,h=>by
  simp only[Yi,Qiw,all_cons,Zg] at h;obtain⟨h1,h2⟩:=h;have ih:=QmB i ms (n+1) h2
  cases hk:m.key with
  | int k j=>
   rw[hk] at h1;cases k<;>simp at h1;simp only[Instr.findNow,hk,Instr.sameNow,if_true,Yi,Qb7];by_cases hij:i=j
   ·subst hij;simp
   ·have:(i==j)=false:=by simpa using hij
    simp only[this,Zd hij];exact ih
  | _=>rw[hk] at h1;simp at h1
theorem Qx8 {es:List (Value×Value)} {i:Int} {kt et:TypeId} {V:Option Value→Ty} (ht:P.underlying t=some (.map kt et)) (hk:P.underlying kt=some (.int .i64)) (hz:(P.info? et).bind (·.zero)=some z)
  (hx:Fct Γ x (Ql5 es)) (hi:Fct Γ y (tv (.int .i64 i))) (hV:∀F w,(V (Qb7 es i)).ok F w ((Qb7 es i).getD z)):OpJ P ⟨d,.lookup t x y true,ty,pos,af,g⟩ Γ [] [] (fun _=>[]) (fun _=>ttup [V (Qb7 es i),tv (.bool (Qb7 es i).isSome)]):=
 Qax fun F w A he=>by
  obtain⟨r,ms,c,hv,_,hh,hks,hms⟩:=hx.use (by simp[Op.operands]) he;have h2:=hi.val (by simp[Op.operands]) he;obtain⟨ti,hti,hzz⟩:∃ti,P.info? et=some ti∧ti.zero=some z:=by
   cases h:P.info? et with
   | none=>simp[h] at hz
   | some ti=>exact⟨ti,rfl,by simpa[h] using hz⟩
  have hzv:(zeroValue et).run P w=.ok z w:=by simp[zeroValue,typeInfo,hti,hzz]
  have hf:=QmB i ms.toList 0 hks;rw[hms] at hf;have hck:∀b n,(Instr.checkKey b (n+1) kt (.int .i64 i)).run P w=.ok () w:=fun b n=>by simp[Instr.checkKey,run_underlying hk]
  have hobj:(getObj r).run P w=.ok (.map ms c) w:=by simp[getObj,Sem.run,hh]
  cases hn:Instr.findNow (.int .i64) (.int .i64 i) ms.toList 0 with
  | none=>rw[hn] at hf;cases hf
  | some o=>
   rw[hn] at hf;simp only[ZY,ZX] at hf;refine⟨.tuple #[(Qb7 es i).getD z,.bool (Qb7 es i).isSome],?_,[(Qb7 es i).getD z,.bool (Qb7 es i).isSome],rfl,.cons (hV F w) (.cons rfl .nil)⟩;rw[←hf]
   cases o with
   | none=>simp only[execOp,hv,h2,Instr.lookup,Sem.run_bind,run_underlying ht,Zo,hobj,Sem.run_pure,hck _ 9999,Instr.findKey,run_underlying hk,hn,hzv,Option.map_none,Option.getD_none,Option.isSome_none,if_true]
   | some q=>simp only[execOp,hv,h2,Instr.lookup,Sem.run_bind,run_underlying ht,Zo,hobj,Sem.run_pure,hck _ 9999,Instr.findKey,run_underlying hk,hn,ZY,Yp,Option.isSome_some,if_true]
end
def Qnu (A B:Atom):Atom:=⟨fun k=>A.fp k∨B.fp k,fun F w=>A.ok F w∧B.ok F w∧∀k,A.fp k→¬B.fp k,fun hF hh hf h=>⟨A.keep hF hh (fun k hk=>hf k (.inl hk)) h.1,B.keep hF hh (fun k hk=>hf k (.inr hk)) h.2.1,h.2.2⟩⟩
def tbp (q:Value):Ty:=⟨fun _ _ v=>(v=.pointer none∨v=q)∧v.oneCell'=true,fun _ _ h=>h⟩
def boxT (t:TypeId) (Ts:List Ty) (p:Value):Atom:=⟨fun k=>p=.pointer (some ⟨k,0,none⟩),fun F w=>∃b cur,p=.pointer (some ⟨b,0,none⟩)∧w.heap[b]?=some (.cells cur t (0,0))∧QQ Ts F w cur.toList∧∀u∈cur.toList,u.oneCell'=true,fun hF hh hf ⟨b,cur,hp,hb,hc,h1⟩=>⟨b,cur,hp,by rw[hf b hp];exact hb,hc.keep hF hh,h1⟩⟩
def bldE (tb e:TypeId) (l:Str) (q v:Value):Atom:=Qnu (boxT tb [tbp q,tvs v] q) (own (rInt .u8) e (QW l) v)
section
variable {M:Fr} {M0:Blk} {w0:World} {n:Nat} {Γ:List (Nat×Ty)} {As:List Atom} {a:Act} {w:World} {A B:Atom}
theorem fps2:∀k,fps (A::B::As) k↔fps (Qnu A B::As) k:=by
 intro k;constructor
 ·rintro ⟨C,hC,hk⟩;rcases Zm.1 hC with rfl | hC
  ·exact⟨_,Zk,.inl hk⟩
  ·rcases Zm.1 hC with rfl | hC
   ·exact⟨_,Zk,.inr hk⟩
   ·exact⟨C,by simp[hC],hk⟩
 ·rintro ⟨C,hC,hk⟩;rcases Zm.1 hC with rfl | hC
  ·rcases hk with hk | hk
   ·exact⟨A,by simp,hk⟩
   ·exact⟨B,by simp,hk⟩
  ·exact⟨C,by simp[hC],hk⟩
theorem Qqb:hold M0 (A::B::As)=hold M0 (Qnu A B::As):=by funext k;exact propext ⟨fun h=>h.imp id (fps2 k).1,fun h=>h.imp id (fps2 k).2⟩
theorem St.open2 (h:St M w0 n Γ (Qnu A B::As) a w):St M w0 n Γ (A::B::As) a w:=by
 have h1:=h.own _ Zk;have hap:=pairwise_cons.1 h.apart;refine⟨h.size,h.defers,h.grow,h.m0,?_,?_,?_,?_⟩
 ·rw[Qqb];intro C hC;rcases Zm.1 hC with rfl | hC
  ·exact h1.1
  ·rcases Zm.1 hC with rfl | hC
   ·exact h1.2.1
   ·exact h.own C (by simp[hC])
 ·intro C hC k hk;rcases Zm.1 hC with rfl | hC
  ·exact h.fresh _ Zk k (.inl hk)
  ·rcases Zm.1 hC with rfl | hC
   ·exact h.fresh _ Zk k (.inr hk)
   ·exact h.fresh C (by simp[hC]) k hk
 ·refine pairwise_cons.2 ⟨fun C hC k hk=>?_,pairwise_cons.2 ⟨fun C hC k hk=>hap.1 C hC k (.inr hk),hap.2⟩⟩;rcases Zm.1 hC with rfl | hC
  ·exact h1.2.2 k hk
  ·exact hap.1 C hC k (.inl hk)
 ·rw[Qqb];exact h.slots
theorem St.close2 (h:St M w0 n Γ (A::B::As) a w):St M w0 n Γ (Qnu A B::As) a w:=by
 have hap:=pairwise_cons.1 h.apart;have hap2:=pairwise_cons.1 hap.2;refine⟨h.size,h.defers,h.grow,h.m0,?_,?_,?_,?_⟩
 ·rw[←Qqb];intro C hC;rcases Zm.1 hC with rfl | hC
  ·exact⟨h.own A (by simp),h.own B (by simp),hap.1 B (by simp)⟩
  ·exact h.own C (by simp[hC])
 ·intro C hC k hk;rcases Zm.1 hC with rfl | hC
  ·rcases hk with hk | hk
   ·exact h.fresh A (by simp) k hk
   ·exact h.fresh B (by simp) k hk
  ·exact h.fresh C (by simp[hC]) k hk
 ·refine pairwise_cons.2 ⟨fun C hC k hk=>?_,hap2.2⟩;rcases hk with hk | hk
  ·exact hap.1 C (by simp[hC]) k hk
  ·exact hap2.1 C hC k hk
 ·rw[←Qqb];exact h.slots
theorem St.swap (h:St M w0 n Γ (A::B::As) a w):St M w0 n Γ (B::A::As) a w:=h.perm (Perm.swap B A As)
end
section
variable {Γ:List (Nat×Ty)} {P:Program} {d:Option Tmp} {ty:TypeId} {pos:String} {af:Array Edge} {g:Option (Nat×Bool)} {x y:Operand} {T:Ty} {t t2 e:TypeId} {α:Type} {R:Rep α} {bytes:Nat} {z:Value}
theorem Qx9 {tb:TypeId} {Ts:List Ty} {q:Value} {F:Blk} {w:World} (h:(boxT tb Ts q).ok F w):(box Ts q).ok F w:=by obtain⟨b,cur,hp,hb,r⟩:=h;exact⟨b,cur,tb,hp,hb,r⟩
theorem OpJ.rT {o:Oper} {tb:TypeId} {Ts:List Ty} {q:Value} {N:Value→List Atom} {T:Value→Ty} (h:OpJ P o Γ [box Ts q] [] N T):OpJ P o Γ [boxT tb Ts q] [] N T:=by intro M w a hM hU hE hap hUE he;refine h M w a hM (fun A hA=>?_) hE hap (fun A hA B hB=>by cases hB) he;obtain rfl:=Ze.1 hA;have:=hU _ (Ze.2 rfl);exact⟨Qx9 this.1,this.2⟩
theorem op_storeT' {a:α} {Ts:List Ty} {q:Value} {off:Nat} {tb:TypeId} (hz:TOk P t R bytes z) (hp:Fct Γ x (tv (padd q off))) (hx:Fct Γ y (R.ty a)) (hl:off+R.n≤Ts.length):
  OpJ P ⟨d,.store t x y,ty,pos,af,g⟩ Γ [] [boxT tb Ts q] (fun _=>[boxT tb (splice Ts off (R.cs a)) q]) (fun _=>tany):=by
 intro M w A hM _ hE _ _ he;obtain⟨⟨b,cur,hq,hb,hc,h1⟩,hfp⟩:=hE _ (Ze.2 rfl);have hgiv:=QdI hE;have hv:=hx.use (by simp[Op.operands]) he;have hpv:A.eval x=.pointer (some ⟨b,off,none⟩):=by rw[hp.val (by simp[Op.operands]) he,hq];simp[padd,QaI]
 have hsz:cur.size=Ts.length:=by simpa using hc.1
 have hr:(execOp A.eval (⟨d,.store t x y,ty,pos,af,g⟩:Oper)).run P w=.ok .skip (w.setRow b (splice cur.toList off (A.eval y).cells.toList).toArray):=by have hrs:=Qjt (off:=off) hz hv hb (by omega);simp only[execOp,hpv,Sem.run_bind,hrs,Zo,Sem.run_pure]
 simp only[Does,hr];have hfpb:∀{Us:List Ty} k,(boxT tb Us q).fp k↔k=b:=by intro Us k;rw[hq];exact Qnn (Ts:=Us)
 have heat:∀k,Qay [boxT tb Ts q] k↔k=b:=by intro k;rw[Qan,hfpb]
 refine⟨undef,Qet ((heat b).2 rfl),Qcs (fun k hk=>?_) ?_,trivial⟩
 ·have hk:=(hfpb k).1 hk;subst hk;refine⟨.inl ((heat _).2 rfl),?_⟩;have:=(Array.getElem?_eq_some_iff.1 hb).1;simpa using this
 ·obtain⟨hcv,h1v,_⟩:=QcA hv;refine⟨b,_,hq,setRow_heap w b cur _ tb _ hb,?_,?_⟩
  ·have hcs:=(hc.splice (off:=off) hcv (by rw[R.len];exact hl));simp only;refine hcs.keepE ?_ ?_
   ·intro k hk;refine Qc8 (by simp) hgiv (fun B hB j hj=>?_) hk;obtain rfl:=Ze.1 hB;exact .inl ((heat j).2 ((hfpb j).1 hj))
   ·rintro k ⟨h2,h3⟩;exact setRow_other w b k _ (fun e=>h3 (hgiv k ((heat k).2 e)))
  ·simpa using Qnm (off:=off) h1 h1v
theorem Qnv {xs:List α} {Ts:List Ty} {q u':Value} {off:Nat} {tb:TypeId} (hz:TOk P t rVal bytes z) (hp:Fct Γ x (tv (padd q off))) (hx:Fct Γ y (tv u')) (hl:off+1≤Ts.length):
  OpJ P ⟨d,.store t x y,ty,pos,af,g⟩ Γ [own R e xs u'] [boxT tb Ts q] (fun _=>[boxT tb (splice Ts off (rVal.cs u')) q]) (fun _=>tany):=
 .say (A:=own R e xs u') (by simp) (fun _ _ h=>QgV h) fun hu=>(op_storeT' (R:=rVal) (a:=u') (Ts:=Ts) (off:=off) hz hp (hx.weak fun _ _ _ h=>⟨h,hu⟩) hl).useMore (fun A hA=>by cases hA)
theorem Qpa {tb be:TypeId} {bs:Nat} (hi:(P.info? tb).map (fun i=>(i.zero,i.size,i.bytes))=some (some (.agg #[.pointer none,.slice none 0 0]),2,bs)):
  OpJ P ⟨d,.alloc tb,ty,pos,af,g⟩ Γ [] [] (fun p=>[bldE tb be [] p nilV]) (fun p=>tv p):=by
 intro M w A hM _ _ _ _ _;obtain⟨ti,hti,hzz⟩:∃ti,P.info? tb=some ti∧ti.zero=some (.agg #[.pointer none,.slice none 0 0]):=by
  cases hx:P.info? tb with
  | none=>simp[hx] at hi
  | some i=>simp only[hx,ZY,ZX,Yx] at hi;exact⟨i,rfl,hi.1⟩
 have hr:(execOp A.eval (⟨d,.alloc tb,ty,pos,af,g⟩:Oper)).run P w=.ok (.value (.pointer (some ⟨w.heap.size,0,none⟩))) (w.alloc (.cells #[.pointer none,.slice none 0 0] tb)):=by simp[execOp,Instr.alloc,zeroValue,typeInfo,hti,hzz,newVar,newRow,Value.cells]
 simp only[Does,hr];refine⟨.pointer (some ⟨w.heap.size,0,none⟩),(Step.alloc w _).mono (fun _ h=>h.elim),Qcs (fun k hk=>?_) ?_,rfl⟩
 ·have hk:k=w.heap.size:=by
   rcases hk with hk | hk
   ·exact (Qnn (Ts:=[])).1 hk
   ·cases hk
  subst hk;exact⟨.inr (Zx _),by simp⟩
 ·refine⟨⟨w.heap.size,_,rfl,heap_alloc_new w _,?_,?_⟩,⟨[],World.ownsRow_nil _ _ _ _,rfl,fun j T u hT=>by simp[QW] at hT⟩,fun k _ hk=>by cases hk⟩
  ·exact .cons ⟨.inl rfl,rfl⟩ (.cons ⟨rfl,rfl⟩ .nil)
  ·intro u hu;simp at hu;rcases hu with rfl | rfl<;>rfl
theorem Qsi {xs:List Int} {v:Value} {F F':Blk} {w:World} {s:Str} (ht:P.underlying t=some (.slice e)) (hu:P.underlying t2=some .string) (hz:TOk P e (rInt .u8) 1 (.int .u8 0))
  (ho:(own (rInt .u8) e xs v).ok F w) (hF:∀k,F k→k<w.heap.size∧¬(own (rInt .u8) e xs v).fp k) (hFF:∀k,F k→F' k) (h:rm (xs.length+s.length)=some ()):
  ∃v' w',(Builtin.append_ #[t,t2] ty #[v,.string (sB s)]).run P w=.ok v' w'∧Step (own (rInt .u8) e xs v).fp w w'∧(∀k,(own (rInt .u8) e (xs++QW s) v').fp k→((own (rInt .u8) e xs v).fp k∨w.heap.size≤k)∧k<w'.heap.size)∧(own (rInt .u8) e (xs++QW s) v').ok F' w':=by
 obtain⟨ti,hti,hzz,hs,hbb⟩:=hz.info;have hs1:ti.size=1:=hs;have hroom:xs.length+s.length≤68719476736:=by unfold rm at h;split at h<;>first | assumption | cases h
 have hsz:=QeJ s;have hlen:(QW s).length=s.length:=by simp[QW]
 have hnl:(Lib.strCells (sB s)).length=s.length:=by rw[Lib.strCells_length,hsz]
 have hcn:∀F w,QQ ((QW s).flatMap (rInt .u8).cs) F w (Lib.strCells (sB s)):=by intro F w;rw[Qgn];refine⟨by simp[hnl,hlen],fun j T u hT hu=>?_⟩;simp only[Lib.strCells,QW,sB,Yw,ZJ,Yr] at hT hu;obtain⟨c,h1,rfl⟩:=hT;obtain⟨c',h2,rfl⟩:=hu;have:some c=some c':=h1.symm.trans h2;cases this;rfl
 have hxf:(xs.flatMap (rInt .u8).cs).length=xs.length:=by rw[Qgn];simp
 have hlt:∀k,(own (rInt .u8) e xs v).fp k→k<w.heap.size:=by
  intro k hk;rcases QaS ho with⟨hv,_⟩ | ⟨b,cap,cur,hv,hbk,_⟩
  ·rw[hv] at hk;cases hk
  ·rw[hv] at hk;rw[Qbu.1 hk];exact (Array.getElem?_eq_some_iff.1 hbk).1
 have hz1:(Value.int u8 0).cells.size=1:=rfl;rcases QaS ho with⟨hv,hx⟩ | ⟨gb,cap,cur,hv,hbk,h1,h2,h3,h4⟩
 ·subst hv;subst hx;by_cases hs0:s=[]
  ·subst hs0;refine⟨.slice none 0 0,w,?_,Step.refl _ _,fun k hk=>(by exact absurd hk (by intro h;cases h)),?_⟩
   ·have hf:=Lib.run_firstCells_string (P:=P) w 1 (sB []);have e0:(sB []).size=0:=rfl;have e4:(⟨#[]⟩:ByteArray)=ByteArray.empty:=rfl;rw[e0] at hf;have e5:Lib.strCells (sB [])=[]:=rfl;rw[e5] at hf;simp[Builtin.append_,run_underlying ht,run_underlying hu,sizeOf,typeInfo,hti,hs1,Builtin.lenOf,e0,hf]
   ·exact⟨[],World.ownsRow_nil _ _ _ _,rfl,fun j T u hT=>by simp[QW] at hT⟩
  ·have hpos:0<s.length:=by
    rcases s with _ | ⟨b,s⟩
    ·exact (hs0 rfl).elim
    ·simp
   simp only[ZS,Nat.zero_add] at hroom;have hrun:=run_append_nil_string (P:=P) w t t2 ty e ti (.int .u8 0) ht hu hti hzz (sB s) (by rw[hsz];omega) (by rw[hsz];omega) (by rw[hsz,hbb];omega);have hge:=grownCap_ge w (sB s).size 0 e;have hle:=grownCap_le_maxLen w (sB s).size 0 e (by rw[hsz];unfold maxLen;omega);have e1:((sB s).data.map fun b=>Value.int .u8 b.toNat)=(Lib.strCells (sB s)).toArray:=by apply Array.ext';simp[Lib.strCells]
   rw[e1] at hrun;refine⟨_,_,hrun,⟨rfl,rfl,rfl,by simp,fun k hk _=>Go.RowKit.Below.heap_alloc w.drew _ k hk⟩,?_,?_⟩
   ·intro k hk;rw[Qbu.1 hk];exact⟨.inr (Zx _),by simp⟩
   ·rw[Yg,hsz,←hlen];rw[hsz,←hlen] at hge hle;refine QfH (heap_alloc_new w.drew _) hge hle ?_ ?_
    ·rw[hlen] at hge ⊢;simp only[Array.size_append,size_toArray,size_zeroCells,hz1,hnl];show _=_ * 1;omega
    ·have e2:((Lib.strCells (sB s)).toArray++Builtin.zeroCells (Value.int .u8 0).cells (grownCap w (QW s).length 0 e - (QW s).length)).toList.take ((QW s).length * 1)=Lib.strCells (sB s):=by
      rw[Array.toList_append,take_left' (by rw[toList_toArray,hnl,hlen,Nat.mul_one])]
     show QQ _ F' _ (take ((QW s).length * 1) _);rw[e2];exact hcn _ _
 ·subst hv;have h3':cur.size=cap:=by simpa using h3
  by_cases hcap:xs.length+s.length≤cap
  ·have hrun:=Lib.run_append_room_string (P:=P) w t t2 ty e ti ht hu hti hs1 gb xs.length cap cur hbk (sB s) (by rw[hsz];exact hcap) (by rw[hsz,h3'];exact hcap);refine⟨_,_,hrun,Qet (Qbu.2 rfl),?_,?_⟩
   ·intro k hk;rw[Qbu.1 hk];exact⟨.inl (Qbu.2 rfl),by simpa using (Array.getElem?_eq_some_iff.1 hbk).1⟩
   ·have el:xs.length+(sB s).size=(xs++QW s).length:=by rw[hsz];simp[hlen]
    rw[el];refine QfH (setRow_heap w gb cur _ e _ hbk) (by rw[←el,hsz];exact hcap) h2 ?_ ?_
    ·simp only[size_toArray,Zi,Yb,Ys,Array.length_toList,hnl];show _=cap * 1;omega
    ·have e2:(cur.toList.take xs.length++Lib.strCells (sB s)++cur.toList.drop (xs++QW s).length).take ((xs++QW s).length * 1)=cur.toList.take (xs.length * 1)++Lib.strCells (sB s):=by
      rw[Nat.mul_one,Nat.mul_one];refine take_left' ?_;rw[Zi,hnl,Yb,←el,hsz];simp;omega
     show QQ _ F' _ (take ((xs++QW s).length * 1) (toArray _).toList);rw[toList_toArray,e2,ZM];exact (h4.keepE hFF (fun k hk=>setRow_other w gb k _ (fun e=>(hF k hk).2 (Qbu.2 e)))).append (hcn _ _)
  ·have holds:∀j u,(cur.toList.take xs.length)[j]?=some u→w.cell? ((⟨gb,0,none⟩:Addr).add j)=some u:=by
    intro j u hu;rw[getElem?_take] at hu;split at hu
    ·rw[QaI,Nat.zero_add];simpa[World.cell?,hbk] using hu
    ·cases hu
   have holdl:(cur.toList.take xs.length).length=xs.length * ti.size:=by rw[hs1];simp;omega
   have hrun:=Lib.run_append_grow_string (P:=P) w t t2 ty e ti (.int .u8 0) ht hu hti hzz ⟨gb,0,none⟩ xs.length cap _ holdl holds (sB s) (by rw[hsz];omega) (by rw[hsz];omega) (growslice_fits (by rw[hsz];omega) (by rw[hbb,hsz];omega));have hge:=grownCap_ge w (xs.length+(sB s).size) cap e;have hle:=grownCap_le_maxLen w (xs.length+(sB s).size) cap e (by rw[hsz];unfold maxLen;omega);refine⟨_,_,hrun,⟨rfl,rfl,rfl,by simp,fun k hk _=>Go.RowKit.Below.heap_alloc w.drew _ k hk⟩,?_,?_⟩
   ·intro k hk;rw[Qbu.1 hk];exact⟨.inr (Zx _),by simp⟩
   ·have el:xs.length+(sB s).size=(xs++QW s).length:=by rw[hsz];simp[hlen]
    rw[el] at hge hle ⊢;refine QfH (heap_alloc_new w.drew _) hge hle ?_ ?_
    ·simp only[Array.size_append,size_toArray,size_zeroCells,hz1,holdl,hnl,hs1,Zi,hlen];simp only[Zi,hlen] at hge;show _=_ * 1;omega
    ·have e2:(((cur.toList.take xs.length).toArray++(Lib.strCells (sB s)).toArray++Builtin.zeroCells (Value.int .u8 0).cells (grownCap w (xs++QW s).length cap e - (xs++QW s).length)).toList).take ((xs++QW s).length * 1)=cur.toList.take (xs.length * 1)++Lib.strCells (sB s):=by
      rw[Array.toList_append,Array.toList_append,Nat.mul_one,Nat.mul_one];refine take_left' ?_;simp only[Zi,holdl,hnl,hs1,hlen,Nat.mul_one]
     show QQ _ F' _ (take ((xs++QW s).length * 1) _);rw[e2,ZM];exact (h4.keepE hFF (fun k hk=>Go.RowKit.Below.heap_alloc w.drew _ k (hF k hk).1)).append (hcn _ _)
theorem Qt0 {xs:List Int} {v:Value} {s:Str} (ht:P.underlying t=some (.slice e)) (hu:P.underlying t2=some .string) (hz:TOk P e (rInt .u8) 1 (.int .u8 0)) (hx:Fct Γ x (tv v)) (hy:Fct Γ y (tv (.string (sB s)))) (h:rm (xs.length+s.length)=some ()):
  OpJ P ⟨d,.call { callee:=.builtin .append,args:=#[x,y],argTypes:=#[t,t2] },ty,pos,af,g⟩ Γ [] [own (rInt .u8) e xs v] (fun v'=>[own (rInt .u8) e (xs++QW s) v']) (fun v'=>tv v'):=by
 intro M w A hM _ hE _ _ he;obtain⟨ho,hfp⟩:=hE _ (Ze.2 rfl);have hgiv:=QdI hE;have h1:=hx.val (by simp[Op.operands,Call.operands]) he;have h2:=hy.val (by simp[Op.operands,Call.operands]) he;obtain⟨v',w',hrun,hstep,hfp',hok⟩:=Qsi (ty:=ty) (F:=free M w) (F':=fun k=>k<w.heap.size∧¬M k) ht hu hz ho (fun k hk=>⟨hk.1,fun hf=>hk.2 (hfp k hf)⟩) (fun k hk=>hk) h;have hexec:(execOp A.eval (⟨d,.call { callee:=.builtin .append,args:=#[x,y],argTypes:=#[t,t2] },ty,pos,af,g⟩:Oper)).run P w=.ok (.value v') w':=by simp only[execOp,resolve,invoke,builtin,Sem.run_bind,Sem.run_pure,Zo,map_toArray,Yi,Yz,h1,h2,hrun]
 simp only[Does,hexec];refine⟨v',hstep.mono (fun k hk=>Qan.2 hk),Qcs (fun k hk=>⟨(hfp' k hk).1.imp Qan.2 id,(hfp' k hk).2⟩) ?_,rfl⟩;refine Atom.keep _ (fun k hk=>?_) (fun _ _=>rfl) (fun _ _=>rfl) hok;refine Qc8 hstep.size hgiv (fun B hB j hj=>?_) hk;obtain rfl:=Ze.1 hB;exact (hfp' j hj).1.imp Qan.2 id
theorem QqI {xs:List α} {v:Value} (hne:xs≠[]) (hx:Fct Γ x (tv v)):OpJ P ⟨d,.call { callee:=.builtin .unsafeSliceData,args:=#[x],argTypes:=#[t] },ty,pos,af,g⟩ Γ [own R e xs v] [] (fun _=>[]) (fun _=>tv (Qa9 v 0)):=
 QcH fun M w A hU he=>by
  have h1:=hx.val (by simp[Op.operands,Call.operands]) he;rcases QaS (hU _ (Ze.2 rfl)) with⟨_,hn⟩ | ⟨b,cap,cur,hv,_,hl,_⟩
  ·exact (hne hn).elim
  ·subst hv;have hc:cap≠0:=by
    have:0<xs.length:=length_pos_iff.2 hne;omega
   refine⟨.pointer (some ⟨b,0,none⟩),by simp only[execOp,resolve,invoke,builtin,Sem.run_bind,Sem.run_pure,Zo,map_toArray,Yi,Yz,h1,Lib.run_unsafeSliceData_row (P:=P) (w:=w) #[t] ty ⟨b,0,none⟩ xs.length cap hc],?_⟩;show _=_;simp[Qa9,Addr.add]
theorem Qnw {l:Str} {v:Value} {pt it:TypeId} (hp:P.underlying pt=some (.pointer e)) (hc:P.cellsOf e=1) (hne:l≠[]) (hx:Fct Γ x (tv (Qa9 v 0))) (hy:Fct Γ y (tv (.int .i64 ((QW l).length:Int)))):
  OpJ P ⟨d,.call { callee:=.builtin .unsafeString,args:=#[x,y],argTypes:=#[pt,it] },ty,pos,af,g⟩ Γ [] [own (rInt .u8) e (QW l) v] (fun _=>[]) (fun _=>tv (.string (sB l))):=by
 intro M w A hM _ hE _ _ he;obtain⟨ho,hfp⟩:=hE _ (Ze.2 rfl);have h1:=hx.val (by simp[Op.operands,Call.operands]) he;have h2:=hy.val (by simp[Op.operands,Call.operands]) he;have hlen:(QW l).length=l.length:=by simp[QW]
 rw[hlen] at h2;rcases QaS ho with⟨_,hn⟩ | ⟨b,cap,cur,hv,hb,hl,hm,hs,hcells⟩
 ·have:l.length=0:=by rw[←hlen,hn];rfl
  exact (hne (ZO this)).elim
 ·subst hv;have hrun:=Lib.run_unsafeString_row (P:=P) w pt it ty e hp hc b cur.size (by simp[World.shape?,hb]) l hne (by rw[hs,←hlen];show _≤cap * 1;omega) (by unfold maxLen at hm;omega) (fun j c hj=>by
   rw[QaI,Nat.zero_add];have hj':j<l.length:=(Zf.1 hj).1;have hT:((QW l).flatMap (rInt .u8).cs)[j]?=some (tv (.int .u8 (c.toNat:Int))):=by rw[Qgn];simp[QW,hj]
   have hlt:j<(cur.toList.take ((QW l).length * (rInt .u8).n)).length:=by rw[hcells.1];exact (Zf.1 hT).1
   have:=hcells.2 j _ _ hT (Zb hlt);have hval:cur.toList[j]?=some (.int .u8 (c.toNat:Int)):=by
    have h3:=Zb hlt;rw[show (cur.toList.take ((QW l).length * (rInt .u8).n))[j]=Value.int .u8 (c.toNat:Int) from this] at h3;rw[getElem?_take] at h3;split at h3
    ·exact h3
    ·cases h3
   simpa[World.cell?,hb] using hval)
  have hev:Qa9 (Value.slice (some ⟨b,0,none⟩) (QW l).length cap) 0=.pointer (some ⟨b,0,none⟩):=by simp[Qa9,Addr.add]
  have hexec:(execOp A.eval (⟨d,.call { callee:=.builtin .unsafeString,args:=#[x,y],argTypes:=#[pt,it] },ty,pos,af,g⟩:Oper)).run P w=.ok (.value (.string ⟨l.toArray⟩)) (w.freeze ⟨b,0,none⟩ l.length):=by simp only[execOp,resolve,invoke,builtin,Sem.run_bind,Sem.run_pure,Zo,map_toArray,Yi,Yz,h1,h2,hev,hrun]
  simp only[Does,hexec];refine⟨undef,?_,Qes,rfl⟩;have hne0:l.length≠0:=fun h=>hne (ZO h);refine⟨by simp[World.freeze,hne0],by simp[World.freeze,hne0],by simp[World.freeze,hne0],by simp[World.freeze,hne0],fun k hk hnk=>?_⟩;have hkb:b≠k:=fun e=>hnk (Qan.2 (Qbu.2 e.symm));simp[World.freeze,hne0,Array.getElem?_modify,hkb]
end
def QbL {α:Type} (R:Rep α) (k:Nat):Rep (α×Option Value):=
 ⟨fun x=>match x.2 with | none=>R.cs x.1 | some q=>(R.cs x.1).set k (tvs q),R.n,R.agg,fun x=>by cases x.2<;>simp[R.len],
  fun x T h F w v hv=>by
   obtain⟨x,o⟩:=x
   cases o with
   | none=>exact R.one x T h F w v hv
   | some q=>
    rcases mem_or_eq_of_mem_set h with h | h
    ·exact R.one x T h F w v hv
    ·subst h;exact QcU F w v hv,R.sz⟩
def Qb8 {α:Type} (xs:List α) (i:Int) (q:Value):List (α×Option Value):=match idx xs i with | some u=>(xs.map fun x=>(x,none)).set i.toNat (u,some q) | none=>xs.map fun x=>(x,none)
section
variable {α:Type} {R:Rep α} {k:Nat} {xs:List α} {i:Int} {q:Value} {u:α} {v:Value} {e:TypeId}
theorem Qi9 (h:idx xs i=some u):0≤i∧i.toNat<xs.length∧xs[i.toNat]?=some u:=by
 unfold idx at h;split at h
 ·exact⟨by assumption,(Zf.1 h).1,h⟩
 ·cases h
theorem Qkh (h:idx xs i=some u):Qb8 xs i q=(xs.map fun x=>(x,none)).set i.toNat (u,some q):=by unfold Qb8;rw[h]
theorem Qya (h:idx xs i=some u):(Qb8 xs i q).length=xs.length:=by rw[Qkh h];simp
theorem Qos (h:idx xs i=some u):idx (Qb8 xs i q) i=some (u,some q):=by obtain⟨h0,h1,h2⟩:=Qi9 h;rw[Qkh h];unfold idx;rw[Zc h0,getElem?_set_self (by simpa using h1)]
theorem Qyb (h:idx xs i=some u):setAt (xs.map fun x=>(x,(none:Option Value))) i (u,some q)=some (Qb8 xs i q):=by obtain⟨h0,h1,h2⟩:=Qi9 h;rw[Qkh h];unfold setAt;rw[Zc ⟨h0,by rw[ZT];omega⟩]
theorem Qvo (R:Rep α) (k:Nat) (e:TypeId) (xs:List α) (v:Value):own (QbL R k) e (xs.map fun x=>(x,none)) v=own R e xs v:=by
 have e1:((xs.map fun x=>(x,(none:Option Value))).flatMap (QbL R k).cs)=xs.flatMap R.cs:=by rw[flatMap_map];rfl
 unfold own;congr 1
 funext F w
 rw[e1,ZT];rfl
theorem Qt1 {β:Type} {l:List β} {k:Nat} {x:β} (h:k<l.length):l.set k x=splice l k [x]:=by
 apply ext_getElem?;intro j;rw[Qa4 _ _ _ _ (by rw[length_singleton];omega),getElem?_set];simp only[length_singleton];by_cases hj:k=j
 ·subst hj;rw[Zc rfl,Zc h,Zc ⟨Zx _,by omega⟩,Nat.sub_self];rfl
 ·rw[Zd hj,Zd (by omega)]
section
variable {Γ:List (Nat×Ty)} {P:Program} {d:Option Tmp} {ty:TypeId} {pos:String} {af:Array Edge} {g:Option (Nat×Bool)} {x y:Operand} {t:TypeId} {bytes:Nat} {z:Value} {β:Type} {R2:Rep β}
theorem tokH {b:Nat} (hz:TOk P t R b z):TOk P t (QbL R k) b z:=⟨hz.d,hz.i,hz.zc⟩
theorem Qvp {ys:List β} {e2:TypeId} (hz:TOk P t rVal bytes z) (hp:Fct Γ x (tv (padd (Qa9 v (i.toNat * R.n)) k))) (hx:Fct Γ y (tv q)) (h:idx xs i=some u) (hk:k+1≤R.n):
  OpJ P ⟨d,.store t x y,ty,pos,af,g⟩ Γ [own R2 e2 ys q] [own R e xs v] (fun _=>[own (QbL R k) e (Qb8 xs i q) v]) (fun _=>tany):=
 .say (A:=own R2 e2 ys q) (by simp) (fun _ _ h=>QgV h) fun hu=>by
  obtain⟨h0,h1,h2⟩:=Qi9 h;have hm:idx (xs.map fun x=>(x,(none:Option Value))) i=some (u,none):=by unfold idx;rw[Zc h0,ZJ,h2];rfl
  have:=Qkc (R:=QbL R k) (R2:=rVal) (xs:=xs.map fun x=>(x,none)) (ys:=Qb8 xs i q) (v:=v) (i:=i) (off:=k) (u0:=(u,none)) (u:=(u,some q)) (u2:=q) (e:=e) (d:=d) (ty:=ty) (pos:=pos) (af:=af) (g:=g)
   hz hp (hx.weak fun _ _ _ h=>⟨h,hu⟩) hm (Qyb h) hk (by show (R.cs u).set k (tvs q)=splice (R.cs u) k [tvs q];exact Qt1 (by rw[R.len];omega))
  rw[Qvo] at this;exact this.useMore (fun A hA=>by cases hA)
theorem Qlg {e':TypeId} {j:IntKind} (ht:P.underlying t=some (.slice e)) (hz:TOk P e R bytes z) (hx:Fct Γ x (tv v)) (hi:Fct Γ y (tv (.int j i))) (h:idx xs i=some u): OpJ P ⟨d,.indexAddr t x y,ty,pos,af,g⟩ Γ [own (QbL R k) e' (Qb8 xs i q) v] [] (fun _=>[]) (fun _=>tv (Qa9 v (i.toNat * R.n))):=QaQ (R:=QbL R k) ht (tokH hz) hx hi (Qos h)
theorem Qlh {s:TypeId} {f off m:Nat} (hf:Qt P s f off) (hp:Fct Γ x (tv (Qa9 v m))) (h:idx xs i=some u):OpJ P ⟨d,.fieldAddr s x f,ty,pos,af,g⟩ Γ [own (QbL R k) e (Qb8 xs i q) v] [] (fun _=>[]) (fun _=>tv (padd (Qa9 v m) off)):=Qeb (R:=QbL R k) hf hp (Qha (Qos h))
theorem QmR (hz:TOk P t rVal bytes z) (hp:Fct Γ x (tv (padd (Qa9 v (i.toNat * R.n)) k))) (h:idx xs i=some u) (hk:k+1≤R.n):
  OpJ P ⟨d,.load t x,ty,pos,af,g⟩ Γ [own (QbL R k) e (Qb8 xs i q) v] [] (fun _=>[]) (fun _=>tv q):=
 QjD (QfJ (R:=QbL R k) (R2:=rVal) (f:=q) (off:=k) hz hp (Qos h) (by
  show [tvs q]=(((R.cs u).set k (tvs q)).drop k).take 1;have hl:k<(R.cs u).length:=by rw[R.len];omega
  rw[Yk (by simpa using hl)];simp)) (fun _ _ _ _ h=>h.1)
end
section
variable {M:Fr} {w0:World} {n:Nat} {Γ:List (Nat×Ty)} {As:List Atom} {a:Act} {w:World} {β:Type} {R2:Rep β} {ys:List β} {e2:TypeId}
theorem St.closeH {u':α} (hi:idx xs i=some u) (h:St M w0 n Γ (Sim.own R2 e2 ys q::Sim.own (QbL R k) e (Qb8 xs i q) v::As) a w) (hk:k+1≤R.n) (hu:R.cs u'=(R.cs u).set k (tsl R2 ys)):
  St M w0 n Γ (Sim.own R e (xs.set i.toNat u') v::As) a w:=by
 obtain⟨h0,h1,h2⟩:=Qi9 hi;have hf:∀j,fps (Sim.own R e (xs.set i.toNat u') v::As) j→fps (Sim.own R2 e2 ys q::Sim.own (QbL R k) e (Qb8 xs i q) v::As) j:=by
  rintro j ⟨A,hA,hj⟩;rcases Zm.1 hA with rfl | hA
  ·exact⟨Sim.own (QbL R k) e (Qb8 xs i q) v,by simp,hj⟩
  ·exact⟨A,by simp[hA],hj⟩
 have hfree:∀j,free (hold M.m (Sim.own R2 e2 ys q::Sim.own (QbL R k) e (Qb8 xs i q) v::As)) w j→free (hold M.m (Sim.own R e (xs.set i.toNat u') v::As)) w j:=fun j hj=>⟨hj.1,fun hm=>hj.2 (hm.imp id (hf j))⟩;have hown:=h.own (Sim.own R2 e2 ys q) (by simp);have hbig:=h.own (Sim.own (QbL R k) e (Qb8 xs i q) v) (by simp);have hap:=pairwise_cons.1 h.apart;have hfp:∀j,(Sim.own R2 e2 ys q).fp j→free (hold M.m (Sim.own R e (xs.set i.toNat u') v::As)) w j:=by
  intro j hj;have hfr:=h.fresh _ (Zk) j hj;refine⟨hfr.2,?_⟩;rintro (hm | ⟨A,hA,hkA⟩)
  ·have:=h.m0 j hm;rcases hfr.1 with hb | hb
   ·exact this.2 hb
   ·omega
  ·rcases Zm.1 hA with rfl | hA
   ·exact hap.1 (Sim.own (QbL R k) e (Qb8 xs i q) v) (by simp) j hj hkA
   ·exact hap.1 A (by simp[hA]) j hj hkA
 have hsl:(tsl R2 ys).ok (free (hold M.m (Sim.own R e (xs.set i.toNat u') v::As)) w) w q:=Qa0.own (x:=.tmp 0) (Γ:=[(0,tv q)]) (U:=[Sim.own R2 e2 ys q]) (R:=R2) (e:=e2) (xs:=ys) (v:=q) (Fct.t 0 rfl) (by simp) _ _ w ⟨#[q],[]⟩ hfree (fun A hA=>by simp at hA;subst hA;exact⟨hown,hfp⟩) (fun p hp _=>by simp at hp;subst hp;rfl);have hlu:(R.cs u).length=R.n:=R.len u;have hcell:∀j T,((xs.set i.toNat u').flatMap R.cs)[j]?=some T→(j=i.toNat * R.n+k∧T=tsl R2 ys∧((Qb8 xs i q).flatMap (QbL R k).cs)[j]?=some (tvs q))∨((Qb8 xs i q).flatMap (QbL R k).cs)[j]?=some T:=by
  intro j T hT;have hfl:(xs.flatMap R.cs).length=xs.length * R.n:=Qap R xs;have hfl2:((xs.map fun x=>(x,(none:Option Value))).flatMap (QbL R k).cs)=xs.flatMap R.cs:=by rw[flatMap_map];rfl
  have hin:i.toNat * R.n+R.n≤xs.length * R.n:=by have:(i.toNat+1) * R.n≤xs.length * R.n:=Nat.mul_le_mul_right _ h1;rw[Nat.add_mul] at this;omega
  have e1:=Qju (QbL R k) (xs.map fun x=>(x,(none:Option Value))) i.toNat (u,some q) (by simpa using h1);rw[hfl2] at e1;have e1':((Qb8 xs i q).flatMap (QbL R k).cs)=splice (xs.flatMap R.cs) (i.toNat * R.n) ((R.cs u).set k (tvs q)):=by rw[Qkh hi];exact e1
  rw[Qju R xs i.toNat u' h1,hu,Qa4 _ _ _ _ (by rw[Yv];omega),Yv,hlu] at hT;rw[e1',Qa4 _ _ _ _ (by rw[Yv];omega),Yv,hlu];by_cases hj:i.toNat * R.n≤j∧j<i.toNat * R.n+R.n
  ·rw[Zc hj] at hT ⊢;by_cases hjk:k=j - i.toNat * R.n
   ·left;refine⟨by omega,?_,?_⟩
    ·rw[←hjk,getElem?_set_self (by omega)] at hT;exact (Zs hT).symm
    ·rw[←hjk,getElem?_set_self (by omega)]
   ·right;rw[getElem?_set_ne hjk] at hT ⊢;exact hT
  ·rw[Zd hj] at hT ⊢;exact .inr hT
 refine⟨h.size,h.defers,h.grow,h.m0,?_,?_,?_,fun p hp=>p.2.keep hfree (fun _ _=>rfl) (h.slots p hp)⟩
 ·intro A hA;rcases Zm.1 hA with rfl | hA
  ·obtain⟨us,ho,hc⟩:=hbig;have hlen:(Qb8 xs i q).length=(xs.set i.toNat u').length:=by rw[Qya hi,Yv]
   rw[hlen] at ho;refine⟨us,ho,?_,fun j T c hT hu'=>?_⟩
   ·rw[hc.1,Qap,Qap,hlen];rfl
   ·rcases hcell j T hT with⟨_,rfl,hq⟩ | hq
    ·have hcq:c=q:=(hc.2 j _ c hq hu').1;rw[hcq];exact hsl
    ·exact T.keep hfree (fun _ _=>rfl) (hc.2 j T c hq hu')
  ·exact A.keep hfree (fun _ _=>rfl) (fun _ _=>rfl) (h.own A (by simp[hA]))
 ·intro A hA j hj;rcases Zm.1 hA with rfl | hA
  ·exact h.fresh (Sim.own (QbL R k) e (Qb8 xs i q) v) (by simp) j hj
  ·exact h.fresh A (by simp[hA]) j hj
 ·have h2:=pairwise_cons.1 hap.2;exact pairwise_cons.2 ⟨fun B hB j hj=>h2.1 B hB j hj,h2.2⟩
end
end
def sub_hi {α:Type} {L v:List α} {j:Int} (h:sub L 0 j=some v):0≤j∧j≤(L.length:Int):=by
 unfold sub at h;split at h
 ·rename_i hc;exact⟨hc.2.1,hc.2.2⟩
 ·cases h
section
variable {Γ:List (Nat×Ty)} {P:Program} {d:Option Tmp} {ty:TypeId} {pos:String} {af:Array Edge} {g:Option (Nat×Bool)} {x y:Operand} {T:Ty} {t e:TypeId} {α:Type} {R:Rep α} {bytes:Nat} {z:Value}
theorem Qpb {n:Nat} {k:IntKind} {i:Int} {Ts:List Ty} {q:Value} {o:Nat} {L:List α} {u:α} (ht:P.underlying t=some (.array n e)) (hz:TOk P e R bytes z) (h1:R.n=1) (hx:Fct Γ x (tv (padd q o))) (hi:Fct Γ y (tv (.int k i))) (hn:L.length=n) (h:idx L i=some u):
  OpJ P ⟨d,.indexAddr t x y,ty,pos,af,g⟩ Γ [box Ts q] [] (fun _=>[]) (fun _=>tv (padd q (o+i.toNat))):=
 QcH fun M w A hU he=>by have hv:=hx.val (by simp[Op.operands]) he;have h2:=hi.val (by simp[Op.operands]) he;obtain⟨b,cur,e,hq,_⟩:=hU _ (Ze.2 rfl);subst hq;obtain⟨h0,hlt,_⟩:=idx_lt' h;refine⟨_,?_,rfl⟩;simp only[execOp,hv,h2,Sem.run_bind,padd,QaI,QiJ ht hz w h0 (show i<(n:Int) by omega),Zo,Sem.run_pure,h1,Nat.mul_one,Nat.zero_add]
theorem Qnx {a u:α} {i:Int} {Ts Us:List Ty} {q:Value} {o:Nat} {L:List α} (hz:TOk P t R bytes z) (h1:R.n=1) (hp:Fct Γ x (tv (padd q (o+i.toNat)))) (hx:Fct Γ y (R.ty a)) (h:idx L i=some u) (hl:o+L.length≤Ts.length) (he:splice Ts (o+i.toNat) (R.cs a)=Us):
  OpJ P ⟨d,.store t x y,ty,pos,af,g⟩ Γ [] [box Ts q] (fun _=>[box Us q]) (fun _=>tany):=by
 subst he;exact Qg6 hz hp hx (by have:=(idx_lt' h).2.1;rw[h1];omega)
theorem Qt2 {β:Type} {pre post X m Y:List β} {o k:Nat} (ho:pre.length=o) (hk:k+m.length≤X.length) (hY:splice X k m=Y):splice (pre++X++post) (o+k) m=pre++Y++post:=by subst hY;subst ho;unfold splice;rw[ZW pre X post,take_length_add_append,take_append_of_le_length (by omega),Nat.add_assoc,drop_length_add_append,drop_append_of_le_length hk];simp
def asl (v:Value) (n m:Nat):Value:=match v with | .pointer (some a)=>.slice (some a) n m | _=>.slice none 0 0
theorem Qki {n:Nat} {Ts:List Ty} {q:Value} {o:Nat} {hi:Option Operand} {j:Int} (ht:P.underlying t=some (.array n e)) (hz:TOk P e R bytes z) (hx:Fct Γ x (tv (padd q o))) (hhi:Bd Γ hi n j) (h:0≤j∧j≤n) (h0:0<n):
  OpJ P ⟨d,.slice t x none hi none,ty,pos,af,g⟩ Γ [box Ts q] [] (fun _=>[]) (fun _=>tv (asl (padd q o) j.toNat n)):=
 QcH fun M w A hU he=>by
  have hv:=hx.val (by simp[Op.operands]) he;obtain⟨b,cur,e,hq,_⟩:=hU _ (Ze.2 rfl);subst hq;obtain⟨ti,hti,_,hs,_⟩:=hz.info;have hb:(Instr.sliceBounds false n n none (hi.map A.eval) none).run P w=.ok (0,j.toNat,n) w:=by
   rcases hhi.use (by rintro y rfl;simp[Op.operands]) he with⟨f1,f2⟩ | ⟨k2,f1⟩
   ·rw[f1,f2];simp[Instr.sliceBounds]
   ·rw[f1];simp only[Instr.sliceBounds,Sem.run_bind,Sem.run_pure,Zo,run_sliceBound w k2 j n _ h.1 h.2]
  refine⟨_,?_,rfl⟩;simp[execOp,Instr.sliceAt,run_underlying ht,Instr.sureAddr,hv,hb,sizeOf,typeInfo,hti,hs,padd,QaI,asl,show ¬n=0 by omega]
theorem Qa0.asl {U:List Atom} {Ts:List Ty} {q:Value} {o j n:Nat} {L:List α} (h:Fct Γ x (tv (Sim.asl (padd q o) j n))) (hU:Sim.box Ts q∈U) (hj:L.length=j) (hn:j≤n) (hL:(Ts.drop o).take (L.flatMap R.cs).length=L.flatMap R.cs):Qa0 Γ U x (tsl R L):=by intro F F' w a hF hA h0;have hv:a.eval x=_:=h F w a h0;obtain⟨hok,hfp⟩:=hA _ hU;obtain⟨b,hq,hrow⟩:=QgR hok;subst hq;rw[hv];refine⟨_,n,by simp only[Sim.asl,padd,hj];rfl,by omega,fun _=>⟨b,o,by simp[QaI],hfp b rfl,fun i T hi=>?_⟩⟩;obtain⟨u,hu,hty⟩:=((hrow.part o).head (Us:=L.flatMap R.cs) hL.symm) i T hi;exact⟨u,by rw[←hu];congr 2;omega,T.keep hF (fun _ _=>rfl) hty⟩
theorem Qa0.aslH {U:List Atom} {Ts:List Ty} {q:Value} {o n:Nat} {j:Int} {L ys:List α} (h:Fct Γ x (tv (Sim.asl (padd q o) j.toNat n))) (hU:Sim.box Ts q∈U) (hs:sub L 0 j=some ys) (hn:L.length=n) (hL:(Ts.drop o).take (L.flatMap R.cs).length=L.flatMap R.cs):Qa0 Γ U x (tsl R ys):=by
 unfold sub at hs;split at hs
 ·rename_i hc;simp only[ZX,Int.toNat_zero,drop_zero,Nat.sub_zero] at hs;have e:ys.flatMap R.cs=(L.flatMap R.cs).take (j.toNat * R.n):=by
   rw[←hs];have:=Row.flatMap_sub R L 0 j.toNat (by omega);simpa using this
  have hyl:ys.length=j.toNat:=by rw[←hs,Yb];omega
  refine Qa0.asl h hU hyl (by omega) ?_;rw[e,←hL,take_take,Yb,take_eq_take_iff];omega
 ·cases hs
theorem Qt3 {n:Nat} {Ts:List Ty} {L:List α} (ht:P.underlying t=some (.array n e)) (hz:TOk P e R bytes z) (hx:Fct Γ x (tptr Ts)) (hn:L.length=n) (h0:0<n) (hL:Ts.take (L.flatMap R.cs).length=L.flatMap R.cs):
  OpJ P ⟨d,.slice t x none none none,ty,pos,af,g⟩ Γ [] [] (fun _=>[]) (fun _=>tsl R L):=
 Qax fun F w A he=>by
  obtain⟨b,o,hv,hb,hr⟩:=hx.use (by simp[Op.operands]) he;obtain⟨ti,hti,_,hs,_⟩:=hz.info;subst hn;refine⟨.slice (some ⟨b,o,none⟩) L.length L.length,?_,_,_,rfl,Zx _,fun _=>⟨b,o,rfl,hb,hr.head hL.symm⟩⟩;have h0':¬L=[]:=by intro hh;rw[hh] at h0;simp at h0
  simp[execOp,Instr.sliceAt,run_underlying ht,Instr.sureAddr,hv,Instr.sliceBounds,sizeOf,typeInfo,hti,hs,h0',QaI]
end

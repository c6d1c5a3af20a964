/- The logic's twelfth part. No condition. -/
import Derived.Test.YtlajingmjmnfgaaGreatDoorSimG
import Derived.Lib.ConvBytes
import Derived.Lib.AppendStr
import Derived.Lib.UnsafeStr
import Derived.Lib.Builder
import Derived.Laws.Externs
import Derived.RangeFuncNested
import Derived.RangeFuncCalls
import Derived.TacticsInMore
import Derived.OrdersIn
set_option linter.all false
open List Go.IntKind
namespace Go.Sim
@[reducible] def ti (x : Int) : Ty := tv (.int .i64 x)
@[reducible] def tb (x : Bool) : Ty := tv (.bool x)
section
variable {M:Fr} {w0:World} {n:Nat} {Γ:List (Nat×Ty)} {As:List Atom} {a:Act} {w:World} {α:Type}
def Xk (As:List Atom) (is:List Nat):List Atom:=is.filterMap λi=>As[i]?
def Qo9 {As:List Atom} (hap:QcW As) {is:List Nat} (hd:Qby is=true):QcW (Xk As is):=by
 unfold QcW Xk at *;rw[pairwise_filterMap];refine (show is.Pairwise (·≠·) from QgJ hd).imp ?_;intro i j hij A hA B hB k hk hkB;rw[pairwise_iff_getElem] at hap;obtain⟨hi,rfl⟩:=Zg.1 hA;obtain⟨hj,rfl⟩:=Zg.1 hB;rcases Nat.lt_trichotomy i j with h | h | h
 ·exact hap i j hi hj h k hk hkB
 ·exact hij h
 ·exact hap j i hj hi h k hkB hk
def St.Xk (h:St M w0 n Γ As a w) (is:List Nat) (hd:Qby is=true):St M w0 n Γ (Xk As is) a w:=by
 have hmem:∀A,A∈Sim.Xk As is->A∈As:=by intro A hA;obtain⟨i,_,hi⟩:=Yy.1 hA;exact Zr hi
 have hf:∀k,fps (Sim.Xk As is) k->fps As k:=λk ⟨A,hA,hk⟩=>⟨A,hmem A hA,hk⟩;exact⟨h.size,h.defers,h.grow,h.m0,λA hA=>A.keep (Qbt hf) (λ_ _=>rfl) (λ_ _=>rfl) (h.own A (hmem A hA)),λA hA=>h.fresh A (hmem A hA),Qo9 h.apart hd,λp hp=>p.2.keep (Qbt hf) (λ_ _=>rfl) (h.Xq p hp)⟩
def St.rowsM {m:Int} {xss:List (List α)} (R:Rep α) (e:TypeId) (hm:Sim.mk m ([]:List α)=some xss) (h:St M w0 n Γ As a w):St M w0 n Γ (rows R e xss (replicate m.toNat nilV)::As) a w:=by
 unfold Sim.mk at hm;split at hm
 ·obtain rfl:=Zu hm;exact h.rows0 R e m.toNat
 ·cases hm
def St.rowsN (R:Rep α) (e:TypeId) (h:St M w0 n Γ As a w):St M w0 n Γ (rows R e ([]:List (List α)) []::As) a w:=h.rows0 R e 0
def St.Xn {R:Rep α} {e:TypeId} {xs:List α} {v:Value} {s:Nat} (i:Nat) (h:St M w0 n Γ (Sim.own R e xs v::As) a w) (hi:Γ[i]?=some (s,tv v)):St M w0 n ((s,tsl R xs)::Γ) As a w:=h.share i hi
end
section
variable {Γ:List (Nat×Ty)} {P:Program} {d:Option Tmp} {ty:TypeId} {pos:String} {af:Array Edge} {g:Option (Nat×Bool)} {x y:Operand} {T:Ty} {t e e1 e2:TypeId} {α:Type} {R:Rep α} {bytes:Nat} {z:Value} {xss:List (List α)} {us:List Value} {v:Value}
def zokV:∀F w,(rVal.ty nilV).ok F w (.slice none 0 0):=λ_ _=>⟨rfl,rfl⟩
def Qxb {n:Int} {k k':IntKind} (ht:P.underlying t=some (.slice e)) (hz:TOk P e rVal bytes (.slice none 0 0)) (hb:bytes<=2048) (hx:Fct Γ x (tv (.int k n))) (hy:Fct Γ y (tv (.int k' n))) (h:mk n ([]:List α)=some xss):
  OpJ P ⟨d,.makeSlice t x y,ty,pos,af,g⟩ Γ [] [] (λv=>[own rVal e (replicate n.toNat nilV) v]) (λv=>tv v):=by
 refine Qg4 (R:=rVal) ht hz zokV hb hx hy ?_;unfold mk at h ⊢;split at h
 ·rename_i hc;rw[Zc hc]
 ·cases h
def Qxc {i:Int} {xs:List α} {yss:List (List α)} {u:Value} (h:setAt xss i xs=some yss) (hl:us.length=xss.length):setAt us i u=some (us.set i.toNat u):=by
 unfold setAt at h ⊢;split at h
 ·rename_i hc;rw[Zc ⟨hc.1,by omega⟩]
 ·cases h
def Qzk {i:Int} {xs:List α} {yss:List (List α)} {u:Value} (hz:TOk P t rVal bytes z) (hp:Fct Γ x (tv (Qbi v (i.toNat * rVal.n)))) (hx:Fct Γ y (tv u)) (h:setAt xss i xs=some yss):
  OpJ P ⟨d,.store t x y,ty,pos,af,g⟩ Γ [rows R e2 xss us,own R e xs u] [own rVal e1 us v] (λ_=>[own rVal e1 (us.set i.toNat u) v]) (λ_=>tany):=
 .say (A:=rows R e2 xss us) (by simp) (λ_ _ h=>Qkl h) λhl=>.say (A:=own R e xs u) (by simp) (λ_ _ h=>QhD h) λhu=>(QuG (us:=us) hz hp hx hu (Qxc h hl)).Xr (λA hA=>by cases hA)
def op_hdr {xs:List α} {u:Value} (ht:P.underlying t=some (.slice e1)) (hz:TOk P e1 rVal bytes z) (hx:Fct Γ x (tv u)):OpJ P ⟨d,.buildSlice t 1 #[(0,x)],ty,pos,af,g⟩ Γ [own R e xs u] [] (λ_=>[]) (λ_=>tsl rVal [u]):=.say (A:=own R e xs u) (by simp) (λ_ _ h=>QhD h) λhu=>(Qaq (R:=rVal) (len:=1) (us:=[u]) ht hz (.cons (hx.Xp λ_ _ _ h=>⟨h,hu⟩) (.nil _)) rfl (by show 1 * 1<=16777216;omega)).Xr (λA hA=>by cases hA)
def Qzl {xs:List α} {u:Value} (ht:P.underlying t=some (.slice e1)) (hz:TOk P e1 rVal bytes z) (hx:Fct Γ x (tv u)):OpJ P ⟨d,.buildSlice t 1 #[(0,x)],ty,pos,af,g⟩ Γ [own R e xs u] [] (λv=>[own rVal e1 [u] v]) (λv=>tv v):=.say (A:=own R e xs u) (by simp) (λ_ _ h=>QhD h) λhu=>(QgL (R:=rVal) (len:=1) (us:=[u]) ht hz (.cons (hx.Xp λ_ _ _ h=>⟨h,hu⟩) (.nil _)) rfl (by show 1 * 1<=16777216;omega) (by omega)).Xr (λA hA=>by cases hA)
def Qtq {ws:List Value} (ht:P.underlying t=some (.slice e)) (hz:TOk P e rVal bytes z) (hb:bytes<=2048) (hx:Fct Γ x (tv v)) (hy:Fct Γ y (tsl rVal ws)) (h:rm (xss.length+ws.length)=some ()):
  OpJ P ⟨d,.call { callee:=.builtin .append,args:=#[x,y],argTypes:=#[t,t] },ty,pos,af,g⟩ Γ [rows R e2 xss us] [own rVal e us v] (λv'=>[own rVal e (us++ws) v']) (λv'=>tv v'):=
 .say (A:=rows R e2 xss us) (by simp) (λ_ _ h=>Qkl h) λhl=>(QaV (R:=rVal) (xs:=us) ht hz hb hx hy (by rw[hl];exact h)).Xr (λA hA=>by cases hA)
def Qe9 (hz:TOk P t rVal bytes (.slice none 0 0)):OpJ P ⟨d,.alloc t,ty,pos,af,g⟩ Γ [] [] (λp=>[box (rVal.cs nilV) p]) (λp=>tv p):=QbG (R:=rVal) (a:=nilV) hz zokV
def Qbf {q u:Value} (hz:TOk P t rVal bytes z) (hp:Fct Γ x (tv q)):OpJ P ⟨d,.load t x,ty,pos,af,g⟩ Γ [box (rVal.cs u) q] [] (λ_=>[]) (λ_=>tv u):=Ql8 (Qkh (R:=rVal) (u:=u) hz hp rfl) (λ_ _ _ _ h=>h.1)
def Qny (U:List Atom) (T T':Ty):Prop:=∀(F F':Blk) (w:World) (v:Value),(∀k,F k->F' k)->(∀A∈U,A.ok F w/\∀k,A.fp k->F' k)->T.ok F w v->T'.ok F' w v
inductive Qkn (U:List Atom):List Ty->List Ty->Prop where
 | nil:Qkn U [] []
 | cons {T T':Ty} {Tc Tc':List Ty} (h:Qny U T T') (hs:Qkn U Tc Tc'):Qkn U (T::Tc) (T'::Tc')
def Qqt {U:List Atom} {Ts:List Ty} {q:Value} (hU:box Ts q∈U):Qny U (tv q) (tptr Ts):=λF F' w v hF hA h=>by have hv:v=q:=h;subst hv;exact Qli (hA _ hU).1 hF (hA _ hU).2
def row1 {T:Ty} {F:Blk} {w:World} {b off:Nat} {u:Value} (hu:w.cell? ⟨b,off,none⟩=some u) (h:T.ok F w u):Row [T] F w b off:=λj T' hj=>by
 match j,hj with
 | 0,hj=>simp at hj;subst hj;exact⟨u,hu,h⟩
def Qqu {U:List Atom} {q u:Value} {T:Ty} (h1:box (rVal.cs u) q∈U) (h2:∀(F F':Blk) (w:World),(∀k,F k->F' k)->(∀A∈U,A.ok F w/\∀k,A.fp k->F' k)->T.ok F' w u):Qny U (tv q) (tptr [T]):=λF F' w v hF hA h=>by have hv:v=q:=h;subst hv;obtain⟨b,hq,hr⟩:=QhC (hA _ h1).1;obtain⟨u',hu',hT⟩:=hr 0 (tvs u) rfl;obtain⟨rfl,_⟩:=hT;exact⟨b,0,hq,(hA _ h1).2 b hq,row1 hu' (h2 F F' w hF hA)⟩
def QuH {U:List Atom} {q u:Value} {xs:List α} (h1:box (rVal.cs u) q∈U) (h2:own R e xs u∈U):Qny U (tv q) (tptr [tsl R xs]):=Qqu h1 λF F' w hF hA=>QbP.own (x:=.const u) (Γ:=[]) (U:=U) (R:=R) (e:=e) (xs:=xs) (v:=u) .k h2 F F' w ⟨#[],[]⟩ hF hA (λp hp=>by simp at hp)
def Qpa {U:List Atom} {q u:Value} (h1:box (rVal.cs u) q∈U) (h2:own rVal e1 us u∈U) (h3:rows R e2 xss us∈U):Qny U (tv q) (tptr [tsl (rSl R) xss]):=Qqu h1 λF F' w hF hA=>QbP.table (x:=.const u) (Γ:=[]) (U:=U) (R:=R) (e1:=e1) (e2:=e2) (xss:=xss) (us:=us) (v:=u) .k h2 h3 F F' w ⟨#[],[]⟩ hF hA (λp hp=>by simp at hp)
def Qkn.cells {U:List Atom} {Tc Tc':List Ty} (h:Qkn U Tc Tc') {F F':Blk} {w:World} {vs:List Value} (hF:∀k,F k->F' k) (hA:∀A∈U,A.ok F w/\∀k,A.fp k->F' k) (hc:QS Tc F w vs):QS Tc' F' w vs:=by
 induction h generalizing vs with
 | nil=>exact (by have:=hc.inv0;subst this;exact .nil)
 | cons h hs ih=>obtain⟨u,us,rfl,h1,h2⟩:=hc.inv;exact .cons (h F F' w u hF hA h1) (ih h2)
def Qf1 {f:Operand} {fid:FuncId} {Tc Ts:List Ty} {xs:List Operand} {ts:Array TypeId} {E:List Atom} {N:Value->List Atom} {T:Value->Ty} (hc:Qh P fid) (hfn:FnOk P fid (Ts++Tc) E N T)
  (hf:Fct Γ f (QaZ fid Tc)) (ha:Args Γ [] xs Ts):OpJ P ⟨d,.call { callee:=.value f,args:=xs.toArray,argTypes:=ts },ty,pos,af,g⟩ Γ [] E N T:=by
 intro M w a hM _ hE hap _ he;obtain⟨caps,hfv,hcap⟩:=hf.use (by simp[Op.operands,Call.operands]) he;have hargs:=ha.cells (F:=free M w) (F':=free M w) (a:=a) (λ_ h=>h) (λA hA=>by simp at hA) (λp hp hx=>he p hp (by simp[Op.operands,Call.operands,hx]));have hcells:=hargs.append hcap;simp only[Does,Qkj hc hfv];refine Calls.mono (hfn M w _ hM hE hap hcells) ?_;rintro e w' ⟨x,v,he,h⟩;exact⟨v,he,x,h⟩
def Qqv {f:Operand} {fid:FuncId} {Tc Tc' Ts:List Ty} {xs:List Operand} {ts:Array TypeId} {E:List Atom} {N:Value->List Atom} {T:Value->Ty} (U:List Atom) (hc:Qh P fid) (hfn:FnOk P fid (Ts++Tc') E N T)
  (hf:Fct Γ f (QaZ fid Tc)) (hl:Qkn U Tc Tc') (ha:Args Γ U xs Ts) (hT:∀x,Qhj (T x)) (hN:∀x,∀A∈N x,Qki A):OpJ P ⟨d,.call { callee:=.value f,args:=xs.toArray,argTypes:=ts },ty,pos,af,g⟩ Γ U E N T:=by
 intro M w a hM hU hE hap hUE he;have hM':∀k,(M k/\¬∃A∈U,A.fp k)->k<w.heap.size:=λk h=>hM k h.1;have hsub:∀k,free M w k->free (λk=>M k/\¬∃A∈U,A.fp k) w k:=λk h=>⟨h.1,λhm=>h.2 hm.1⟩;have hUF:∀A∈U,A.ok (free M w) w/\∀k,A.fp k->free (λk=>M k/\¬∃A∈U,A.fp k) w k:=λA hA=>⟨(hU A hA).1,λk hk=>⟨hM k ((hU A hA).2 k hk),λhm=>hm.2 ⟨A,hA,hk⟩⟩⟩;have hE':QfU (λk=>M k/\¬∃A∈U,A.fp k) E w:=λB hB=>⟨B.keep hsub (λ_ _=>rfl) (λ_ _=>rfl) (hE B hB).1,λk hk=>⟨(hE B hB).2 k hk,λ⟨A,hA,hkA⟩=>hUE A hA B hB k hkA hk⟩⟩;obtain⟨caps,hfv,hcap⟩:=hf.use (by simp[Op.operands,Call.operands]) he;have hargs:=ha.cells (a:=a) hsub hUF (λp hp hx=>he p hp (by simp[Op.operands,Call.operands,hx]));have hcells:=hargs.append (hl.cells hsub hUF hcap);simp only[Does,Qkj hc hfv];refine Calls.mono (hfn _ w _ hM' hE' hap hcells) ?_;rintro e w' ⟨x,v,he,hg,hN',hT'⟩;exact⟨v,he,x,hg,⟨hN'.apart,hN'.place,λA hA=>hN x A hA _ _ _ (hN'.ok A hA)⟩,hT x _ _ _ _ hT'⟩
def cpy (xs ys:List α):List α:=ys.take xs.length++xs.drop ys.length
def Qsw (xs ys:List α):(cpy xs ys).length=xs.length:=by simp[cpy];omega
def Qtr {xs:List α} {v:Value} {F:Blk} {w:World} (h:(own R e xs v).ok F w):∃us,QS (xs.flatMap R.cs) F w us/\((v=.slice none 0 0/\xs=[])\/∃b cap,v=.slice (some ⟨b,0,none⟩) xs.length cap/\∀j u,us[j]?=some u->w.cell? ⟨b,j,none⟩=some u):=by
 rcases QaP h with⟨hv,hx⟩ | ⟨b,cap,cur,hv,hb,h1,h2,h3,h4⟩
 ·subst hx;exact⟨[],.nil,.inl ⟨hv,rfl⟩⟩
 ·refine⟨_,h4,.inr ⟨b,cap,hv,λj u hu=>?_⟩⟩;rw[getElem?_take] at hu;split at hu
  ·simp only[World.cell?,hb];simpa using hu
  ·cases hu
def Qxd {xs ys:List α} {v:Value} {F F':Blk} {w:World} {ad:Option Addr} {c:Nat} {vs:List Value} {ta:Array TypeId} (ht:P.underlying t=some (.slice e)) (hta:ta[0]?=some t) (hz:TOk P e R bytes z) (ho:(own R e xs v).ok F w) (hF:∀k,F k->¬(own R e xs v).fp k) (hFF:∀k,F k->F' k)
  (hvs:QS (ys.flatMap R.cs) F w vs) (hr:ys=[]\/∃b off,ad=some ⟨b,off,none⟩/\∀j u,vs[j]?=some u->w.cell? ⟨b,off+j,none⟩=some u):
  ∃w',(Builtin.copy_ ta ty #[v,.slice ad ys.length c]).run P w=.ok (.int .i64 (Nat.min ys.length xs.length)) w'/\Step (own R e xs v).fp w w'/\(own R e (cpy xs ys) v).ok F' w'/\w'.heap.size=w.heap.size:=by
 obtain⟨ti,hti,_,hs,_⟩:=hz.info;have hvl:vs.length=ys.length * R.n:=by rw[hvs.1,Qar]
 rcases QaP ho with⟨hv,hx⟩ | ⟨b,cap,cur,hv,hb,h1,h2,h3,h4⟩
 ·subst hv;subst hx;refine⟨w,?_,Step.refl _ _,?_,rfl⟩
  ·cases ad<;>simp[Builtin.copy_,hta,run_underlying ht,Builtin.lenOf,sizeOf,typeInfo,hti,Builtin.firstCells,goInt,loadCells,loadCellsFrom]
  ·simp only[cpy,Zl,take_zero,drop_nil,Yh];exact Qiw
 ·have hxl:xs.length * R.n<=cur.size:=by rw[h3];exact Nat.mul_le_mul_right _ h1
  obtain⟨m,hm⟩:∃m,m=Nat.min ys.length xs.length:=⟨_,rfl⟩;have hm1:m<=ys.length:=by rw[hm];exact Nat.min_le_left _ _
  have hm2:m<=xs.length:=by rw[hm];exact Nat.min_le_right _ _
  have hmy:m * R.n<=ys.length * R.n:=Nat.mul_le_mul_right _ hm1;have hmx:m * R.n<=xs.length * R.n:=Nat.mul_le_mul_right _ hm2;have hnl:(vs.take (m * R.n)).length=m * R.n:=by simp;omega
  have hone:∀u∈vs.take (m * R.n),u.oneCell'=true:=by
   intro u hu;obtain⟨j,hj⟩:=Yp.1 (mem_of_mem_take hu);have hjl:j<(ys.flatMap R.cs).length:=by rw[<-hvs.1];exact (Zg.1 hj).1
   have hT:=hvs.2 j _ u (Zb hjl) hj;obtain⟨q,_,hq⟩:=ZM.1 (Zk hjl);exact R.one q _ hq F w u hT
  have hfc:(Builtin.firstCells R.n m (.slice ad ys.length c)).run P w=.ok (vs.take (m * R.n)).toArray w:=by
   rcases hr with rfl | ⟨b',off,rfl,hcell⟩
   ·have:vs=[]:=ZI (by rw[hvl];simp);subst this;have hm0:m=0:=by simpa using hm1
    rw[hm0];cases ad<;>simp[Builtin.firstCells,loadCells,loadCellsFrom]
   ·have:=run_loadCells_list (P:=P) w ⟨b',off,none⟩ (vs.take (m * R.n)) (λj u hj=>by
     rw[getElem?_take] at hj;split at hj
     ·rw[QaU];exact hcell j u hj
     ·cases hj)
    rw[hnl] at this;simpa[Builtin.firstCells] using this
  have hst:=run_storeCells_at P b 0 e (vs.take (m * R.n)) 0 cur w hb (by rw[hnl];omega) hone;simp only[Nat.add_zero,Nat.zero_add,take_zero,Ye,hnl] at hst;refine⟨w.setRow b (vs.take (m * R.n)++cur.toList.drop (m * R.n)).toArray,?_,Qey (by rw[hv];exact Qbn.2 rfl),?_,by simp⟩
  ·subst hv;have hlen:(Builtin.lenOf (.slice ad ys.length c)).run P w=.ok ys.length w:=by simp[Builtin.lenOf]
   simp only[Builtin.copy_,hta,run_underlying ht,getElem?_toArray,getElem?_cons_zero,getElem?_cons_succ,Sem.run_bind,hlen,Zm,sizeOf,typeInfo,run_program,hti,Sem.run_pure,<-hm,hs,hfc,hst,goInt]
  ·have hcl:(cpy xs ys).length=xs.length:=Qsw xs ys;have hv':v=.slice (some ⟨b,0,none⟩) (cpy xs ys).length cap:=by rw[hcl];exact hv
   rw[hv'];refine Qfq (setRow_heap w b cur _ e _ hb) (by rw[hcl];exact h1) h2 (by simp only[size_toArray,Ze,hnl,Ys,Array.length_toList];omega) ?_;rw[hcl];have e1:((vs.take (m * R.n)++cur.toList.drop (m * R.n)).toArray.toList).take (xs.length * R.n)=vs.take (m * R.n)++(cur.toList.take (xs.length * R.n)).drop (m * R.n):=by simp only[];rw[take_append,hnl,drop_take];congr 1;rw[ZG (by rw[hnl];exact hmx)]
   rw[e1];have e2:(cpy xs ys).flatMap R.cs=(ys.flatMap R.cs).take (m * R.n)++(xs.flatMap R.cs).drop (m * R.n):=by
    unfold cpy;have e3:ys.take xs.length=ys.take m:=by
     rw[hm]
     change _=ys.take (min ys.length xs.length)
     rcases Nat.le_total ys.length xs.length with h | h
     ·rw[Nat.min_eq_left h,ZG h,take_length]
     ·rw[Nat.min_eq_right h]
    have e4:xs.drop ys.length=xs.drop m:=by
     rw[hm]
     change _=xs.drop (min ys.length xs.length)
     rcases Nat.le_total ys.length xs.length with h | h
     ·rw[Nat.min_eq_left h]
     ·rw[Nat.min_eq_right h,drop_of_length_le h,YA]
    rw[e3,e4,ZF];have f1:=Row.Xv R ys 0 m (by omega);simp only[drop_zero,Nat.zero_mul] at f1;have f2:=Row.Xv R xs m (xs.length - m) (by omega);rw[ZG (l:=xs.drop m) (by simp)] at f2;have f3:((xs.flatMap R.cs).drop (m * R.n)).take ((xs.length - m) * R.n)=(xs.flatMap R.cs).drop (m * R.n):=ZG (by rw[Ys,Qar,Nat.sub_mul];exact Zx _);rw[f1,f2,f3]
   rw[e2];have c1:QS ((ys.flatMap R.cs).take (m * R.n)) F w (vs.take (m * R.n)):=⟨by simp[hvs.1],λj T u hT hu=>by
    rw[getElem?_take] at hT hu;split at hT
    ·rw[Zc (by assumption)] at hu;exact hvs.2 j T u hT hu
    ·cases hT⟩
   have c2:QS ((xs.flatMap R.cs).drop (m * R.n)) F w ((cur.toList.take (xs.length * R.n)).drop (m * R.n)):=⟨by rw[Ys,Ys,h4.1],λj T u hT hu=>by rw[getElem?_drop] at hT hu;exact h4.2 _ T u hT hu⟩;exact (c1.append c2).Xs hFF (λk hk=>setRow_other w b k _ (λe=>hF k hk (by rw[hv,e];exact Qbn.2 rfl)))
def Qxe {xs ys:List α} {v:Value} {U:List Atom} {ta:Array TypeId} (ht:P.underlying t=some (.slice e)) (hta:ta[0]?=some t) (hz:TOk P e R bytes z) (hx:Fct Γ x (tv v))
  (hsrc:∀(M:Blk) (w:World) (A:Act),QfU M U w->Qhh Γ (⟨d,.call { callee:=.builtin .copy,args:=#[x,y],argTypes:=ta },ty,pos,af,g⟩:Oper).op.operands (free M w) w A->∃ad c vs,A.eval y=.slice ad ys.length c/\QS (ys.flatMap R.cs) (free M w) w vs/\(ys=[]\/∃b off,ad=some ⟨b,off,none⟩/\∀j u,vs[j]?=some u->w.cell? ⟨b,off+j,none⟩=some u)):
  OpJ P ⟨d,.call { callee:=.builtin .copy,args:=#[x,y],argTypes:=ta },ty,pos,af,g⟩ Γ U [own R e xs v] (λ_=>[own R e (cpy xs ys) v]) (λ_=>tv (.int .i64 (Nat.min ys.length xs.length))):=by
 intro M w A hM hU hE _ _ he;obtain⟨ho,hfp⟩:=hE _ (Zh.2 rfl);have hgiv:=Qdv hE;have h1:=hx.val (by simp[Op.operands,Call.operands]) he;obtain⟨ad,c,vs,h2,hvs,hr⟩:=hsrc M w A hU he;obtain⟨w',hrun,hstep,hok,hsz⟩:=Qxd (ty:=ty) (c:=c) (F':=free M w) ht hta hz ho (λk hk hf=>hk.2 (hfp k hf)) (λk hk=>hk) hvs hr;have hexec:(execOp A.eval (⟨d,.call { callee:=.builtin .copy,args:=#[x,y],argTypes:=ta },ty,pos,af,g⟩:Oper)).run P w=.ok (.value (.int .i64 (Nat.min ys.length xs.length))) w':=by simp only[execOp,resolve,invoke,builtin,Sem.run_bind,Sem.run_pure,Zm,map_toArray,Yf,Yu,h1,h2,hrun]
 simp only[Does,hexec];refine⟨undef,hstep.mono (λk hk=>Qap.2 hk),Qb6 (λk hk=>⟨.inl (Qap.2 hk),by rw[hsz];exact hM k (hfp k hk)⟩) ?_,rfl⟩;refine Atom.keep _ (λk hk=>?_) (λ_ _=>rfl) (λ_ _=>rfl) hok;refine QcT (by omega) hgiv (λB hB j hj=>?_) hk;obtain rfl:=Zh.1 hB;exact .inl (Qap.2 hj)
def Qzm {xs ys:List α} {v:Value} {ta:Array TypeId} (ht:P.underlying t=some (.slice e)) (hta:ta[0]?=some t) (hz:TOk P e R bytes z) (hx:Fct Γ x (tv v)) (hy:Fct Γ y (tsl R ys)):
  OpJ P ⟨d,.call { callee:=.builtin .copy,args:=#[x,y],argTypes:=ta },ty,pos,af,g⟩ Γ [] [own R e xs v] (λ_=>[own R e (cpy xs ys) v]) (λ_=>tv (.int .i64 (Nat.min ys.length xs.length))):=
 Qxe ht hta hz hx λM w A _ he=>by
  obtain⟨ad,cap,h2,_,hr⟩:=hy.use (by simp[Op.operands,Call.operands]) he;by_cases hn:ys=[]
  ·subst hn;exact⟨_,_,[],h2,.nil,.inl rfl⟩
  ·obtain⟨b,off,ha,_,hrow⟩:=hr hn;obtain⟨vs,hc,hcell⟩:=Qkg _ _ hrow;exact⟨_,_,vs,h2,hc,.inr ⟨b,off,ha,hcell⟩⟩
end
def iand (k:IntKind) (a b:Int):Int:=k.wrap ((BitVec.ofInt k.bits a&&& BitVec.ofInt k.bits b).toNat:Int)
def ishl (k:IntKind) (a b:Int):Int:=k.wrap (a * 2 ^ (min b.toNat k.bits))
def ishr (k:IntKind) (a b:Int):Int:=a.fdiv (2 ^ (min b.toNat k.bits))
def nn (b:Int):Option Unit:=if 0<=b then some () else none
def Qix {b:Int} {u:Unit} (h:nn b=some u):0<=b:=by unfold nn at h;split at h<;>first | assumption | cases h
def cutV (m:Nat) (v:Value) (i j:Int):Value:=match v with
 | .slice ad _ cap=>.slice (if cap=i.toNat then ad else ad.map (·.add (i.toNat * m))) (j.toNat - i.toNat) (cap - i.toNat)
 | x=>x
def Qh5 {α:Type} {xs ys:List α} {i j:Int} (h:sub xs i j=some ys):0<=i/\i<=j/\j.toNat<=xs.length/\ys=(xs.drop i.toNat).take (j.toNat - i.toNat)/\ys.length=j.toNat - i.toNat:=by
 unfold sub at h;split at h
 ·rename_i hc;obtain rfl:=Zu h;exact⟨hc.1,hc.2.1,by omega,rfl,by simp;omega⟩
 ·cases h
section
variable {Γ:List (Nat×Ty)} {P:Program} {d:Option Tmp} {ty:TypeId} {pos:String} {af:Array Edge} {g:Option (Nat×Bool)} {x y:Operand} {T:Ty} {t t2 e:TypeId} {α:Type} {R:Rep α} {bytes:Nat} {z:Value} {v:Value} {k k2:IntKind} {a b:Int}
def QcO (hx:Fct Γ x (tv (.int k a))) (hy:Fct Γ y (tv (.int k b))):OpJ P ⟨d,.binOp .and t x y t2,ty,pos,af,g⟩ Γ [] [] (λ_=>[]) (λ_=>tv (.int k (iand k a b))):=Qcu hx hy λw=>by simp[eqGuard,binOp,Op.intBits,iand]
def Qot (hx:Fct Γ x (tv (.int k a))) (hy:Fct Γ y (tv (.int k2 b))) (h:0<=b):OpJ P ⟨d,.binOp .shl t x y t2,ty,pos,af,g⟩ Γ [] [] (λ_=>[]) (λ_=>tv (.int k (ishl k a b))):=Qcu hx hy λw=>by simp[eqGuard,binOp,Op.shift,ishl,Int.not_lt.2 h]
def QbC (hx:Fct Γ x (tv (.int k a))) (hy:Fct Γ y (tv (.int k2 b))) (h:0<=b):OpJ P ⟨d,.binOp .shr t x y t2,ty,pos,af,g⟩ Γ [] [] (λ_=>[]) (λ_=>tv (.int k (ishr k a b))):=Qcu hx hy λw=>by simp[eqGuard,binOp,Op.shift,ishr,Int.not_lt.2 h]
def Qzn {xs:List α} {v:Value} {F:Blk} {w:World} (h:(own R e xs v).ok F w):∃ad cap,v=.slice ad xs.length cap/\xs.length<=cap:=by
 rcases QaP h with⟨hv,hn⟩ | ⟨b,cap,cur,hv,_,h1,_⟩
 ·subst hn;exact⟨none,0,hv,Zx _⟩
 ·exact⟨_,cap,hv,h1⟩
def Qnz {xs ys:List α} {lo hi:Option Operand} {i j:Int} (ht:P.underlying t=some (.slice e)) (hz:TOk P e R bytes z) (hx:Fct Γ x (tv v)) (hlo:Bd Γ lo 0 i) (hhi:Bd Γ hi xs.length j) (h:sub xs i j=some ys):
  OpJ P ⟨d,.slice t x lo hi none,ty,pos,af,g⟩ Γ [own R e xs v] [] (λ_=>[]) (λ_=>tv (cutV R.n v i j)):=
 Qdk λM w A hU he=>by
  obtain⟨ad,cap,hv,hlc⟩:=Qzn (hU _ (Zh.2 rfl));have hxv:=hx.val (by simp[Op.operands]) he;obtain⟨ti,hti,_,hs,_⟩:=hz.info;obtain⟨c0,c1,c2,_,_⟩:=Qh5 h;have hb:(Instr.sliceBounds true xs.length cap (lo.map A.eval) (hi.map A.eval) none).run P w=.ok (i.toNat,j.toNat,cap) w:=by
   rcases hlo.use (by rintro y rfl;simp[Op.operands]) he with⟨e1,e2⟩ | ⟨k1,e1⟩<;>rcases hhi.use (by rintro y rfl;simp[Op.operands]) he with⟨f1,f2⟩ | ⟨k2,f1⟩
   ·rw[e1,f1,e2,f2];simp[Instr.sliceBounds]
   ·rw[e1,f1,e2];simp only[Instr.sliceBounds,Sem.run_bind,Sem.run_pure,Zm,run_sliceBound w k2 j cap _ (by omega) (by omega)];rfl
   ·rw[e1,f1,f2];simp only[Instr.sliceBounds,Sem.run_bind,Sem.run_pure,Zm,run_sliceBound w k1 i xs.length _ c0 (by omega)];simp
   ·rw[e1,f1];simp only[Instr.sliceBounds,Sem.run_bind,Sem.run_pure,Zm,run_sliceBound w k2 j cap _ (by omega) (by omega),run_sliceBound w k1 i j.toNat _ c0 (by omega)]
  refine⟨cutV R.n v i j,?_,rfl⟩;subst hv;simp[execOp,Instr.sliceAt,run_underlying ht,Instr.slice,hxv,hb,sizeOf,typeInfo,hti,hs,cutV]
def Qts {xs:List α} {b n cap m:Nat} {F:Blk} {w:World} (h:(own R e xs (.slice (some ⟨b,0,none⟩) n cap)).ok F w) (hm:m<=xs.length):(own R e (xs.take m) (.slice (some ⟨b,0,none⟩) m cap)).ok F w:=by
 rcases QaP h with⟨hv,_⟩ | ⟨b',cap',cur,hv,hb,h1,h2,h3,h4⟩
 ·simp at hv
 ·simp only[Value.slice.injEq,ZV,Addr.mk.injEq,and_true] at hv;obtain⟨rfl,rfl,rfl⟩:=hv;have hl:(xs.take m).length=m:=by simp;omega
  have hmm:m * R.n<=xs.length * R.n:=Nat.mul_le_mul_right _ hm;have:=Qfq (R:=R) (xs:=xs.take m) (F:=F) (e:=e) hb (by rw[hl];omega) h2 h3 ?_
  ·rw[hl] at this;exact this
  ·rw[hl];have f1:=Row.Xv R xs 0 m (by omega);simp only[drop_zero,Nat.zero_mul] at f1;rw[f1];refine⟨by simp only[Yc,Qar];have:=h4.1;simp only[Yc,Qar] at this;omega,λj T u hT hu=>?_⟩;rw[getElem?_take] at hT hu;split at hT
   ·rename_i hj;rw[Zc hj] at hu;exact h4.2 j T u hT (by rw[getElem?_take,Zc (by omega)];exact hu)
   ·cases hT
def Qsx {xs ys:List α} {b n cap:Nat} {i j:Int} {F:Blk} {w:World} (h:(own R e xs (.slice (some ⟨b,0,none⟩) n cap)).ok F w) (hs:sub xs i j=some ys):Row (ys.flatMap R.cs) F w b (i.toNat * R.n):=by
 obtain⟨c0,c1,c2,hy,hl⟩:=Qh5 hs;rcases QaP h with⟨hv,_⟩ | ⟨b',cap',cur,hv,hb,h1,h2,h3,h4⟩
 ·simp at hv
 ·simp only[Value.slice.injEq,ZV,Addr.mk.injEq,and_true] at hv;obtain⟨rfl,rfl,rfl⟩:=hv;have hrow:Row (xs.flatMap R.cs) F w b 0:=λq T hT=>by
   have hj:q<(cur.toList.take (xs.length * R.n)).length:=by rw[h4.1];exact (Zg.1 hT).1
   refine⟨(cur.toList.take (xs.length * R.n))[q],?_,h4.2 q T _ hT (Zb hj)⟩;have hj2:q<cur.size:=by simp at hj;omega
   simp[World.cell?,hb,hj2]
  rw[hy,Row.Xv R xs _ _ (by omega)];have:=(hrow.part (i.toNat * R.n)).head (Us:=((xs.flatMap R.cs).drop (i.toNat * R.n)).take ((j.toNat - i.toNat) * R.n)) (by rw[Yc,take_eq_take_iff];simp);simpa using this
def Ql9 {m:Nat} {i j:Int} {α:Type} {ys:List α} (h:sub ([]:List α) i j=some ys):cutV m (.slice none 0 0) i j=.slice none 0 0/\ys=[]:=by
 obtain⟨c0,c1,c2,hy,hl⟩:=Qh5 h;have hj:j.toNat=0:=by simpa using c2
 have hi:i.toNat=0:=by omega
 refine⟨by simp[cutV,hi,hj],by rw[hy];simp⟩
def QuI {m b n cap:Nat} {j:Int}:cutV m (.slice (some ⟨b,0,none⟩) n cap) 0 j=.slice (some ⟨b,0,none⟩) j.toNat cap:=by simp[cutV,QaU]
def QmP {m b n cap:Nat} {i j:Int} {xs ys:List α} (hs:sub xs i j=some ys) (hn:xs.length<=cap) (hy:ys≠[]):cutV m (.slice (some ⟨b,0,none⟩) n cap) i j=.slice (some ⟨b,i.toNat * m,none⟩) ys.length (cap - i.toNat):=by obtain⟨c0,c1,c2,_,hl⟩:=Qh5 hs;have:0<ys.length:=length_pos_iff.2 hy;simp only[cutV];rw[Zd (by omega),hl];simp[QaU]
def Qqw {xs ya yb:List α} {hi lo hi2:Int} (ht:P.underlying t=some (.slice e)) (hz:TOk P e R bytes z) (hb:bytes<=2048) (hx:Fct Γ x (tv (cutV R.n v 0 hi))) (hy:Fct Γ y (tv (cutV R.n v lo hi2))) (hs:sub xs 0 hi=some ya) (hs2:sub xs lo hi2=some yb)
  (h:rm (ya.length+yb.length)=some ()):OpJ P ⟨d,.call { callee:=.builtin .append,args:=#[x,y],argTypes:=#[t,t] },ty,pos,af,g⟩ Γ [] [own R e xs v] (λv'=>[own R e (ya++yb) v']) (λv'=>tv v'):=by
 intro M w A hM _ hE _ _ he;obtain⟨ho,hfp⟩:=hE _ (Zh.2 rfl);have hgiv:=Qdv hE;have h1:=hx.val (by simp[Op.operands,Call.operands]) he;have h2:=hy.val (by simp[Op.operands,Call.operands]) he;obtain⟨v1,ad,c,e1,e2,ho1,hf1,hr⟩:∃v1 ad c,cutV R.n v 0 hi=v1/\cutV R.n v lo hi2=.slice ad yb.length c/\(own R e ya v1).ok (free M w) w/\(∀k,(own R e ya v1).fp k↔(own R e xs v).fp k)/\(yb≠[]->∃b off,ad=some ⟨b,off,none⟩/\Row (yb.flatMap R.cs) (free M w) w b off):=by
  rcases QaP ho with⟨hv,hxs⟩ | ⟨b,cap,cur,hv,_,hlc,_⟩
  ·subst hv;subst hxs;obtain⟨a1,rfl⟩:=Ql9 (m:=R.n) hs;obtain⟨a2,rfl⟩:=Ql9 (m:=R.n) hs2;exact⟨_,none,0,a1,a2,Qiw,λk=>Iff.rfl,λh=>(h rfl).elim⟩
  ·obtain⟨_,_,c2,hya,hla⟩:=Qh5 hs;have hya':ya=xs.take hi.toNat:=by rw[hya];simp
   subst hv;refine⟨_,(match cutV R.n (.slice (some ⟨b,0,none⟩) xs.length cap) lo hi2 with | .slice ad _ _=>ad | _=>none),cap - lo.toNat,QuI,?_,by rw[hya'];exact Qts ho c2,λk=>by rw[Qbn,Qbn],λhne=>?_⟩
   ·obtain⟨_,_,_,_,hlb⟩:=Qh5 hs2;simp only[cutV,hlb]
   ·rw[QmP hs2 hlc hne];exact⟨b,lo.toNat * R.n,rfl,Qsx ho hs2⟩
 obtain⟨v',w',hrun,hstep,hfp',hok⟩:=Qnv (ty:=ty) (c:=c) (F:=free M w) (F':=λk=>k<w.heap.size/\¬M k) ht hz hb ho1 (λk hk=>⟨hk.1,λhf=>hk.2 (hfp k ((hf1 k).1 hf))⟩) (λk hk=>hk) hr h;have hexec:(execOp A.eval (⟨d,.call { callee:=.builtin .append,args:=#[x,y],argTypes:=#[t,t] },ty,pos,af,g⟩:Oper)).run P w=.ok (.value v') w':=by simp only[execOp,resolve,invoke,builtin,Sem.run_bind,Sem.run_pure,Zm,map_toArray,Yf,Yu,h1,h2,e1,e2,hrun]
 simp only[Does,hexec];refine⟨v',hstep.mono (λk hk=>Qap.2 ((hf1 k).1 hk)),Qb6 (λk hk=>⟨(hfp' k hk).1.imp (λh=>Qap.2 ((hf1 k).1 h)) id,(hfp' k hk).2⟩) ?_,rfl⟩;refine Atom.keep _ (λk hk=>?_) (λ_ _=>rfl) (λ_ _=>rfl) hok;refine QcT hstep.size hgiv (λB hB j hj=>?_) hk;obtain rfl:=Zh.1 hB;exact (hfp' j hj).1.imp (λh=>Qap.2 ((hf1 j).1 h)) id
def Qtt {xs ds ss:List α} {lo hi lo2 hi2:Int} {ta:Array TypeId} (ht:P.underlying t=some (.slice e)) (hta:ta[0]?=some t) (hz:TOk P e R bytes z) (hx:Fct Γ x (tv (cutV R.n v lo hi))) (hy:Fct Γ y (tv (cutV R.n v lo2 hi2))) (hs:sub xs lo hi=some ds) (hs2:sub xs lo2 hi2=some ss):
  OpJ P ⟨d,.call { callee:=.builtin .copy,args:=#[x,y],argTypes:=ta },ty,pos,af,g⟩ Γ [] [own R e xs v] (λ_=>[own R e (xs.take lo.toNat++cpy ds ss++xs.drop hi.toNat) v]) (λ_=>tv (.int .i64 (Nat.min ss.length ds.length))):=by
 intro M w A hM _ hE _ _ he;obtain⟨ho,hfp⟩:=hE _ (Zh.2 rfl);have hgiv:=Qdv hE;have h1:=hx.val (by simp[Op.operands,Call.operands]) he;have h2:=hy.val (by simp[Op.operands,Call.operands]) he;obtain⟨ti,hti,_,hsz,_⟩:=hz.info;have hex:∀r w',(Builtin.copy_ ta ty #[cutV R.n v lo hi,cutV R.n v lo2 hi2]).run P w=.ok r w'->(execOp A.eval (⟨d,.call { callee:=.builtin .copy,args:=#[x,y],argTypes:=ta },ty,pos,af,g⟩:Oper)).run P w=.ok (.value r) w':=by intro r w' hr;simp only[execOp,resolve,invoke,builtin,Sem.run_bind,Sem.run_pure,Zm,map_toArray,Yf,Yu,h1,h2,hr]
 rcases QaP ho with⟨hv,hxs⟩ | ⟨b,cap,cur,hv,hbk,hlc,hmx,hcs,hcl⟩
 ·subst hv;subst hxs;obtain⟨a1,rfl⟩:=Ql9 (m:=R.n) hs;obtain⟨a2,rfl⟩:=Ql9 (m:=R.n) hs2;have hr:=hex (.int .i64 0) w (by rw[a1,a2];simp[Builtin.copy_,hta,run_underlying ht,Builtin.lenOf,sizeOf,typeInfo,hti,Builtin.firstCells,goInt]);simp only[Does,hr];refine⟨undef,Step.refl _ _,Qb6 (λk hk=>⟨.inl (Qap.2 hk),hM k (hfp k hk)⟩) ?_,rfl⟩;simp only[take_nil,cpy,Zl,drop_nil,Yh,take_zero];exact Qiw
 ·obtain⟨c0,c1,c2,hd,hdl⟩:=Qh5 hs;obtain⟨g0,g1,g2,_,hsl⟩:=Qh5 hs2;subst hv;obtain⟨ad,c,hc1⟩:∃ad c,cutV R.n (.slice (some ⟨b,0,none⟩) xs.length cap) lo hi=.slice ad ds.length c:=⟨_,_,by simp only[cutV,hdl];rfl⟩;obtain⟨ad2,c',hc2⟩:∃ad c,cutV R.n (.slice (some ⟨b,0,none⟩) xs.length cap) lo2 hi2=.slice ad ss.length c:=⟨_,_,by simp only[cutV,hsl];rfl⟩;obtain⟨m,hm⟩:∃m,m=Nat.min ss.length ds.length:=⟨_,rfl⟩;have hm1:m<=ss.length:=by rw[hm];exact Nat.min_le_left _ _
  have hm2:m<=ds.length:=by rw[hm];exact Nat.min_le_right _ _
  have hlox:lo.toNat+ds.length=hi.toNat:=by omega
  by_cases h0:m=0
  ·have hcp:cpy ds ss=ds:=by
    unfold cpy;have:ds=[]\/ss=[]:=by
     have h5:min ss.length ds.length=0:=by rw[h0] at hm;exact hm.symm
     rcases Nat.le_total ss.length ds.length with h | h
     ·right;exact ZI (by omega)
     ·left;exact ZI (by omega)
    rcases this with h | h
    ·rw[h];simp
    ·rw[h];simp
   have hxx:xs.take lo.toNat++cpy ds ss++xs.drop hi.toNat=xs:=by
    rw[hcp,hd,ZA];have:hi.toNat=lo.toNat+(hi.toNat - lo.toNat):=by omega
    conv=>lhs;rhs;rhs;rw[this,<-drop_drop]
    rw[Yx,Yx]
   have hr:=hex (.int .i64 0) w (by
    rw[hc1,hc2];have e0:Nat.min ss.length ds.length=0:=by rw[<-hm];exact h0
    cases ad<;>cases ad2<;>simp[Builtin.copy_,hta,run_underlying ht,Builtin.lenOf,sizeOf,typeInfo,hti,Builtin.firstCells,goInt,e0,loadCells,loadCellsFrom,storeCells])
   simp only[Does,hr];refine⟨undef,Step.refl _ _,Qb6 (λk hk=>⟨.inl (Qap.2 hk),hM k (hfp k hk)⟩) ?_,by rw[<-hm,h0];rfl⟩;rw[hxx];refine Atom.keep _ (λk hk=>?_) (λ_ _=>rfl) (λ_ _=>rfl) ho;refine QcT (Zx _) hgiv (λB hB j hj=>?_) hk;obtain rfl:=Zh.1 hB;exact .inl (Qap.2 hj)
  ·have hdne:ds≠[]:=λh=>by rw[h] at hm2;simp at hm2;exact h0 hm2
   have hsne:ss≠[]:=λh=>by rw[h] at hm1;simp at hm1;exact h0 hm1
   have hk1:=QmP (m:=R.n) (b:=b) (n:=xs.length) hs hlc hdne;have hk2:=QmP (m:=R.n) (b:=b) (n:=xs.length) hs2 hlc hsne;obtain⟨vs,hvs,hcell⟩:=Qkg _ _ (Qsx ho hs2);have hvl:vs.length=ss.length * R.n:=by rw[hvs.1,Qar]
   have hmy:m * R.n<=ss.length * R.n:=Nat.mul_le_mul_right _ hm1;have hmd:m * R.n<=ds.length * R.n:=Nat.mul_le_mul_right _ hm2;have hnl:(vs.take (m * R.n)).length=m * R.n:=by simp;omega
   have hcells:QS ((ss.flatMap R.cs).take (m * R.n)) (free M w) w (vs.take (m * R.n)):=⟨by simp[hvs.1],λj T u hT hu=>by
    rw[getElem?_take] at hT hu;split at hT
    ·rw[Zc (by assumption)] at hu;exact hvs.2 j T u hT hu
    ·cases hT⟩
   have hone:∀u∈vs.take (m * R.n),u.oneCell'=true:=by
    intro u hu;obtain⟨j,hj⟩:=Yp.1 (mem_of_mem_take hu);have hjl:j<(ss.flatMap R.cs).length:=by rw[<-hvs.1];exact (Zg.1 hj).1
    have hT:=hvs.2 j _ u (Zb hjl) hj;obtain⟨q,_,hq⟩:=ZM.1 (Zk hjl);exact R.one q _ hq _ w u hT
   have hfc:(Builtin.firstCells R.n m (.slice (some ⟨b,lo2.toNat * R.n,none⟩) ss.length (cap - lo2.toNat))).run P w=.ok (vs.take (m * R.n)).toArray w:=by
    have:=run_loadCells_list (P:=P) w ⟨b,lo2.toNat * R.n,none⟩ (vs.take (m * R.n)) (λj u hj=>by
     rw[getElem?_take] at hj;split at hj
     ·rw[QaU];exact hcell j u hj
     ·cases hj)
    rw[hnl] at this;simpa[Builtin.firstCells] using this
   have hxn:(lo.toNat+ds.length) * R.n<=xs.length * R.n:=Nat.mul_le_mul_right _ (by omega);rw[Nat.add_mul] at hxn;have hcapn:xs.length * R.n<=cap * R.n:=Nat.mul_le_mul_right _ hlc;have hst:=run_storeCells_at P b (lo.toNat * R.n) e (vs.take (m * R.n)) 0 cur w hbk (by rw[hnl];omega) hone;simp only[Nat.add_zero] at hst;have hr:=hex (.int .i64 (Nat.min ss.length ds.length)) (w.setRow b (splice cur.toList (lo.toNat * R.n) (vs.take (m * R.n))).toArray) (by
    rw[hk1,hk2];have hlen:(Builtin.lenOf (.slice (some ⟨b,lo2.toNat * R.n,none⟩) ss.length (cap - lo2.toNat))).run P w=.ok ss.length w:=by simp[Builtin.lenOf]
    simp only[Builtin.copy_,hta,run_underlying ht,getElem?_toArray,getElem?_cons_zero,getElem?_cons_succ,Sem.run_bind,hlen,Zm,sizeOf,typeInfo,run_program,hti,Sem.run_pure,<-hm,hsz,hfc,hst,goInt,splice])
   simp only[Does,hr];have heat:∀k,QaB [own R e xs (.slice (some ⟨b,0,none⟩) xs.length cap)] k↔k=b:=λk=>by rw[Qap,Qbn]
   refine⟨undef,Qey ((heat b).2 rfl),Qb6 (λk hk=>?_) ?_,rfl⟩
   ·rw[Qbn] at hk;rw[hk];exact⟨.inl ((heat b).2 rfl),by simpa using (Array.getElem?_eq_some_iff.1 hbk).1⟩
   ·have hyl:(xs.take lo.toNat++cpy ds ss++xs.drop hi.toNat).length=xs.length:=by
     simp only[Ze,Yc,Qsw,Ys];omega
    have key:∀F',(∀k,free M w k->F' k)->(own R e (xs.take lo.toNat++cpy ds ss++xs.drop hi.toNat) (.slice (some ⟨b,0,none⟩) (xs.take lo.toNat++cpy ds ss++xs.drop hi.toNat).length cap)).ok F' (w.setRow b (splice cur.toList (lo.toNat * R.n) (vs.take (m * R.n))).toArray):=?key
    ·have:=key _ (λk hk=>QcT (w':=w.setRow b (splice cur.toList (lo.toNat * R.n) (vs.take (m * R.n))).toArray) (N:=[own R e (xs.take lo.toNat++cpy ds ss++xs.drop hi.toNat) (.slice (some ⟨b,0,none⟩) xs.length cap)]) (by simp) hgiv (λB hB j hj=>by
      obtain rfl:=Zh.1 hB;rw[Qbn] at hj;exact .inl ((heat j).2 hj)) hk)
     rw[hyl] at this;exact this
    intro F' hF';refine Qfq (cur:=(splice cur.toList (lo.toNat * R.n) (vs.take (m * R.n))).toArray) (setRow_heap w b cur _ e _ hbk) (by rw[hyl];exact hlc) hmx (by rw[size_toArray,Qfk _ _ _ (by rw[hnl];simp;omega)];simpa using hcs) ?_;rw[hyl];have e0:∀ns:List Value,lo.toNat * R.n+ns.length<=xs.length * R.n->(splice cur.toList (lo.toNat * R.n) ns).take (xs.length * R.n)=splice (cur.toList.take (xs.length * R.n)) (lo.toNat * R.n) ns:=by
     intro ns hns;apply ext_getElem?;intro j;rw[getElem?_take,Qbd _ _ _ _ (by simp;omega),Qbd _ _ _ _ (by simp;omega),getElem?_take];by_cases hj:j<xs.length * R.n
     ·rw[Zc hj,Zc hj]
     ·rw[Zd hj,Zd hj,Zd (by omega)]
    have e1:=e0 (vs.take (m * R.n)) (by rw[hnl];omega);simp only;rw[e1];have e2:(xs.take lo.toNat++cpy ds ss++xs.drop hi.toNat).flatMap R.cs=splice (xs.flatMap R.cs) (lo.toNat * R.n) ((ss.flatMap R.cs).take (m * R.n)):=by
     have f0:cpy ds ss=ss.take m++ds.drop m:=by
      unfold cpy;have e3:ss.take ds.length=ss.take m:=by
       rw[hm]
       change _=ss.take (min ss.length ds.length)
       rcases Nat.le_total ss.length ds.length with h | h
       ·rw[Nat.min_eq_left h,ZG h,take_length]
       ·rw[Nat.min_eq_right h]
      have e4:ds.drop ss.length=ds.drop m:=by
       rw[hm]
       change _=ds.drop (min ss.length ds.length)
       rcases Nat.le_total ss.length ds.length with h | h
       ·rw[Nat.min_eq_left h]
       ·rw[Nat.min_eq_right h,drop_of_length_le h,YA]
      rw[e3,e4]
     have f1:xs.take lo.toNat++cpy ds ss++xs.drop hi.toNat=xs.take lo.toNat++ss.take m++xs.drop (lo.toNat+m):=by
      rw[f0,hd,drop_take,drop_drop];simp only[ZA];congr 2;have:hi.toNat=lo.toNat+m+(hi.toNat - lo.toNat - m):=by omega
      conv=>lhs;rhs;rw[this,<-drop_drop]
      rw[Yx]
     have t1:=Row.Xv R xs 0 lo.toNat (by omega);simp only[drop_zero,Nat.zero_mul] at t1;have t2:=Row.Xv R ss 0 m (by omega);simp only[drop_zero,Nat.zero_mul] at t2;have t3:=Row.Xv R xs (lo.toNat+m) (xs.length - (lo.toNat+m)) (by omega);rw[ZG (l:=xs.drop (lo.toNat+m)) (by simp)] at t3;have t4:((xs.flatMap R.cs).drop ((lo.toNat+m) * R.n)).take ((xs.length - (lo.toNat+m)) * R.n)=(xs.flatMap R.cs).drop ((lo.toNat+m) * R.n):=ZG (by rw[Ys,Qar,Nat.sub_mul];exact Zx _);rw[f1,ZF,ZF,t1,t2,t3,t4];unfold splice;rw[Yc,Qar,Nat.min_eq_left hmy,Nat.add_mul]
    rw[e2];exact (hcl.splice hcells (by rw[Yc,Qar,Qar,Nat.min_eq_left hmy];omega)).Xs hF' (λk hk=>setRow_other w b k _ (λe=>hk.2 (hgiv k ((heat k).2 e))))
end
def QuJ {P:Program} {a:Act} {w:World} {x y:Code} {Q:Exit->Act->World->Prop} (h:y.wp P Q a w):(Code.cond (.const (.bool false)) x y).wp P Q a w:=wp_cond_false rfl h
def Fct.fnE {Γ:List (Nat×Ty)} {f:FuncId}:Fct Γ (.func f) (QaZ f []):=λF w a h=>⟨[],Fct.fn F w a h⟩
def tsn {α:Type} (R:Rep α) (xs:List α):Ty:=tand (tsl R xs) ⟨λ_ _ v=>xs=[]->v=.slice none 0 0,λ_ _ h=>h⟩
def ne {α:Type} (xs:List α):Option Unit:=match xs with | []=>none | _::_=>some ()
def ne_ok {α:Type} {xs:List α} {u:Unit} (h:ne xs=some u):xs≠[]:=by cases xs<;>simp[ne] at h ⊢
section
variable {Γ:List (Nat×Ty)} {P:Program} {d:Option Tmp} {ty:TypeId} {pos:String} {af:Array Edge} {g:Option (Nat×Bool)} {x y:Operand} {T:Ty} {t e:TypeId} {α:Type} {R:Rep α} {bytes:Nat} {z:Value} {xs ys:List α}
def Fct.nilsn:Fct Γ (.const (.slice none 0 0)) (tsn R ([]:List α)):=λF w a h0=>⟨Fct.nilsl F w a h0,λ_=>rfl⟩
def Fct.sn {x:Operand} (h:Fct Γ x (tsl R xs)) (hne:xs≠[]):Fct Γ x (tsn R xs):=h.Xp λ_ _ _ h=>⟨h,λe=>(hne e).elim⟩
def QuK {F:Blk} {w:World} {v:Value} (h:(tsn R xs).ok F w v):∃ad n c,v=.slice ad n c/\ad.isNone=xs.isEmpty:=by
 obtain⟨⟨ad,cap,hv,_,hr⟩,hn⟩:=h;refine⟨ad,xs.length,cap,hv,?_⟩
 cases xs with
 | nil=>have:=hn rfl;rw[hv] at this;simp only[Value.slice.injEq] at this;rw[this.1];rfl
 | cons u us=>obtain⟨b,off,ha,_⟩:=hr (by simp);rw[ha];rfl
def Qpb {t2:TypeId} (ht:P.underlying t=some (.slice e)) (hx:Fct Γ x (tsn R xs)):OpJ P ⟨d,.binOp .eql t x (.const (.slice none 0 0)) t2,ty,pos,af,g⟩ Γ [] [] (λ_=>[]) (λ_=>tv (.bool xs.isEmpty)):=Qay λF w a he=>by obtain⟨ad,n,c,hv,hn⟩:=QuK (hx.use (by simp[Op.operands]) he);refine⟨.bool ad.isNone,?_,by rw[hn];rfl⟩;simp[execOp,hv,Qgu,eqGuard,binOp,QgZ ht]
def Qpc {t2:TypeId} (ht:P.underlying t=some (.slice e)) (hx:Fct Γ x (tsn R xs)):OpJ P ⟨d,.binOp .neq t x (.const (.slice none 0 0)) t2,ty,pos,af,g⟩ Γ [] [] (λ_=>[]) (λ_=>tv (.bool !xs.isEmpty)):=Qay λF w a he=>by obtain⟨ad,n,c,hv,hn⟩:=QuK (hx.use (by simp[Op.operands]) he);refine⟨.bool !ad.isNone,?_,by rw[hn];rfl⟩;simp[execOp,hv,Qgu,eqGuard,binOp,QgZ ht]
end
abbrev Str:=List UInt8
def sB (l:Str):ByteArray:=⟨l.toArray⟩
def Qzo (b:ByteArray):b.size=b.data.toList.length:=rfl
def QeP (l:Str):(sB l).size=l.length:=by simp[sB,ByteArray.size]
def QpQ (b:ByteArray):∀(n i:Nat) (r:List UInt8),b.size - i=n->i<=b.size->ByteArray.toList.loop b i r=r.reverse++b.data.toList.drop i:=by
 intro n
 induction n with
 | zero=>
  intro i r h hi;unfold ByteArray.toList.loop;have:¬i<b.size:=by omega
  rw[Zd this];have h2:b.data.toList.length<=i:=by rw[<-Qzo];omega
  rw[drop_eq_nil_of_le h2,Yh]
 | succ n ih=>
  intro i r h hi;unfold ByteArray.toList.loop;have hlt:i<b.size:=by omega
  have hlt':i<b.data.toList.length:=hlt;rw[Zc hlt,ih (i+1) _ (by omega) (by omega),Yl hlt'];have:b.get! i=b.data.toList[i]:=by show b.data[i]! =_;rw[getElem!_pos b.data i hlt];rfl
  rw[this];simp
def Qpd (l:Str):(sB l).toList=l:=by unfold ByteArray.toList;rw[QpQ (sB l) _ 0 [] rfl (Nat.zero_le _)];rfl
def QuL (a b:Str):sB a++sB b=sB (a++b):=by apply ByteArray.ext;simp[sB]
def Qko (l:Str) (i j:Nat):(sB l).extract i j=sB ((l.drop i).take (j - i)):=by apply ByteArray.ext;simp[sB,extract_toArray]
def sB_get (l:Str) (i:Nat):(sB l)[i]?=l[i]?:=by
 by_cases h:i<l.length
 ·have h':i<(sB l).size:=by rw[QeP];exact h
  rw[getElem?_pos (sB l) i h',getElem?_pos l i h];rfl
 ·have h':¬i<(sB l).size:=by rw[QeP];exact h
  rw[getElem?_neg (sB l) i h',getElem?_neg l i h]
@[reducible] def rS : Rep Str := ⟨λx => [tv (.string (sB x))],1,false,λ_ => rfl,λx T h F w v hv => by simp at h; subst h; have : v = _ := hv; subst this; rfl,λ_ => rfl⟩
def cat (n:Nat):Option Unit:=if n<=9223372036854775807 then some () else none
section
variable {Γ:List (Nat×Ty)} {P:Program} {d:Option Tmp} {ty:TypeId} {pos:String} {af:Array Edge} {g:Option (Nat×Bool)} {x y:Operand} {T:Ty} {t t2 e:TypeId} {α:Type} {R:Rep α} {bytes:Nat} {z:Value} {a b:Str}
def Qzp (hx:Fct Γ x (tv (.string (sB a)))) (hy:Fct Γ y (tv (.string (sB b)))):OpJ P ⟨d,.binOp .eql t x y t2,ty,pos,af,g⟩ Γ [] [] (λ_=>[]) (λ_=>tv (.bool (a==b))):=Qcu hx hy λw=>by simp[eqGuard,binOp,Op.stringOp,Qpd]
def Qzq (hx:Fct Γ x (tv (.string (sB a)))) (hy:Fct Γ y (tv (.string (sB b)))):OpJ P ⟨d,.binOp .neq t x y t2,ty,pos,af,g⟩ Γ [] [] (λ_=>[]) (λ_=>tv (.bool (a !=b))):=Qcu hx hy λw=>by simp[eqGuard,binOp,Op.stringOp,Qpd,bne]
def Qec (hx:Fct Γ x (tv (.string (sB a)))) (hy:Fct Γ y (tv (.string (sB b)))) (h:cat (a.length+b.length)=some ()):OpJ P ⟨d,.binOp .add t x y t2,ty,pos,af,g⟩ Γ [] [] (λ_=>[]) (λ_=>tv (.string (sB (a++b)))):=
 Qcu hx hy λw=>by
  have hl:¬(((sB a).size+(sB b).size:Nat):Int)>i64.max:=by
   unfold cat at h;split at h
   ·rename_i h';rw[QeP,QeP];simp[IntKind.max,IntKind.bits,IntKind.signed];omega
   ·cases h
  simp only[eqGuard,binOp,Op.stringOp];rw[Zd hl,QuL];simp
def op_lenS' (ht:P.underlying t=some .string) (hx:Fct Γ x (tv (.string (sB a)))):OpJ P ⟨d,.call { callee:=.builtin .len,args:=#[x],argTypes:=#[t] },ty,pos,af,g⟩ Γ [] [] (λ_=>[]) (λ_=>tv (.int .i64 (a.length:Int))):=by
 have:=Qzc (P:=P) (Γ:=Γ) (d:=d) (ty:=ty) (pos:=pos) (af:=af) (g:=g) ht hx
 rwa [QeP] at this
def QjV {i:Int} {k:IntKind} {u:UInt8} (ht:P.underlying t=some .string) (hx:Fct Γ x (tv (.string (sB a)))) (hi:Fct Γ y (tv (.int k i))) (h:idx a i=some u):
  OpJ P ⟨d,.index t x y,ty,pos,af,g⟩ Γ [] [] (λ_=>[]) (λ_=>tv (.int .u8 (u.toNat:Int))):=
 Qay λF w A he=>by
  have h1:=hx.val (by simp[Op.operands]) he;have h2:=hi.val (by simp[Op.operands]) he;unfold idx at h;split at h
  ·rename_i h0;refine⟨_,?_,rfl⟩;simp[execOp,h1,h2,Instr.index,asIntOf,run_underlying ht,h0,sB_get,h]
  ·cases h
def Qzr {lo hi:Option Operand} {i j:Int} {r:Str} (ht:P.underlying t=some .string) (hx:Fct Γ x (tv (.string (sB a)))) (hlo:Bd Γ lo 0 i) (hhi:Bd Γ hi (a.length:Int) j) (h:sub a i j=some r):
  OpJ P ⟨d,.slice t x lo hi none,ty,pos,af,g⟩ Γ [] [] (λ_=>[]) (λ_=>tv (.string (sB r))):=
 Qay λF w A he=>by
  have h1:=hx.val (by simp[Op.operands]) he;have h2:=hlo.use (λy hy=>by simp[Op.operands,hy]) he;have h3:=hhi.use (λy hy=>by simp[Op.operands,hy]) he;unfold sub at h;split at h
  ·rename_i h0;obtain⟨c1,c2,c3⟩:=h0;obtain rfl:=Zu h;refine⟨_,?_,rfl⟩;have hj:j<=((sB a).size:Int):=by rw[QeP];exact c3
   have c2':i<=(j.toNat:Int):=by omega
   have hj0:0<=j:=by omega
   have hm:max j 0=j:=by omega
   have c2n:¬j<i:=by omega
   rcases h2 with⟨h2,rfl⟩ | ⟨k2,h2⟩<;>rcases h3 with⟨h3,rfl⟩ | ⟨k3,h3⟩
   ·simp[execOp,h1,h2,h3,Instr.sliceAt,Instr.slice,Instr.sliceBounds,run_underlying ht]
   ·simp[execOp,h1,h2,h3,Instr.sliceAt,Instr.slice,Instr.sliceBounds,Instr.sliceBound,asIntOf,run_underlying ht,Qko,hj,hj0]
   ·simp[execOp,h1,h2,h3,Instr.sliceAt,Instr.slice,Instr.sliceBounds,Instr.sliceBound,asIntOf,run_underlying ht,Qko,QeP,c1,c2]
   ·simp[execOp,h1,h2,h3,Instr.sliceAt,Instr.slice,Instr.sliceBounds,Instr.sliceBound,asIntOf,run_underlying ht,Qko,hj,hj0,c1,hm,c2]
  ·cases h
def QiP {Ts:List Ty} (hx:Fct Γ x (tptr Ts)):OpJ P ⟨d,.nilCheck x,ty,pos,af,g⟩ Γ [] [] (λ_=>[]) (λ_=>tptr Ts):=Qay λF w A he=>by have h:=hx.use (by simp[Op.operands]) he;obtain⟨b,off,hv,r⟩:=h;exact⟨_,by simp[execOp,hv],b,off,rfl,r⟩
def QhE {Ts:List Ty} {q:Value} (hx:Fct Γ x (tv q)):OpJ P ⟨d,.nilCheck x,ty,pos,af,g⟩ Γ [box Ts q] [] (λ_=>[]) (λ_=>tv q):=Qdk λM w A hU he=>by have h:=hx.val (by simp[Op.operands]) he;obtain⟨b,cur,e,hq,_⟩:=hU _ (Zh.2 rfl);subst hq;exact⟨_,by simp[execOp,h],rfl⟩
def Qll {n:Nat} {k:IntKind} {i:Int} {b off:Nat} (ht:P.underlying t=some (.array n e)) (hz:TOk P e R bytes z) (w:World) (h0:0<=i) (h1:i<n):
  (Instr.indexAt t (.pointer (some ⟨b,off,none⟩)) (.int k i)).run P w=.ok (.pointer (some ⟨b,off+i.toNat * R.n,none⟩)) w:=by
 obtain⟨ti,hti,_,hs,_⟩:=hz.info;simp[Instr.indexAt,Instr.sureAddr,run_underlying ht,asIntOf,h0,h1,sizeOf,typeInfo,hti,hs,QaU]
def QjW {n:Nat} {k:IntKind} {i:Int} {Ts:List Ty} (j:Nat) (hj:i=j) (ht:P.underlying t=some (.array n e)) (hz:TOk P e R bytes z) (hx:Fct Γ x (tptr Ts)) (hi:Fct Γ y (tv (.int k i))) (h1:j<n):
  OpJ P ⟨d,.indexAddr t x y,ty,pos,af,g⟩ Γ [] [] (λ_=>[]) (λ_=>tptr (Ts.drop (j * R.n))):=
 Qay λF w A he=>by obtain⟨b,o,hv,hb,hr⟩:=hx.use (by simp[Op.operands]) he;have h2:=hi.val (by simp[Op.operands]) he;subst hj;refine⟨_,?_,b,o+j * R.n,rfl,hb,hr.part _⟩;simp only[execOp,hv,h2,Sem.run_bind,Qll ht hz w (Int.natCast_nonneg j) (ZQ.2 h1),Zm,Sem.run_pure,Zq]
inductive AnyV where
 | int (n:Int)
 | str (s:Str)
deriving Inhabited
def AnyV.val (ti ts:TypeId):AnyV->Value
 | .int n=>.iface ti (.int .i64 n)
 | .str s=>.iface ts (.string (sB s))
@[reducible] def rAny (ti ts : TypeId) : Rep AnyV := ⟨λx => [tv (x.val ti ts)],1,false,λ_ => rfl,λx T h F w v hv => by simp at h; subst h; have : v = _ := hv; subst this; cases x <;> rfl,λ_ => rfl⟩
def AnyV.asInt:AnyV->Int×Bool | .int n=>(n,true) | .str _=>(0,false)
def AnyV.asStr:AnyV->Str×Bool | .int _=>([],false) | .str s=>(s,true)
def Qi6 {ti ts:TypeId} {n:Int} (ht:P.underlying ti=some (.int .i64)) (hx:Fct Γ x (tv (.int .i64 n))):OpJ P ⟨d,.makeInterface ti x,ty,pos,af,g⟩ Γ [] [] (λ_=>[]) (λ_=>tv (AnyV.val ti ts (.int n))):=Qay λF w A he=>⟨_,by simp[execOp,Instr.makeInterface,run_underlying ht,hx.val (by simp[Op.operands]) he,AnyV.val],rfl⟩
def QjX {ti ts:TypeId} {s:Str} (ht:P.underlying ts=some .string) (hx:Fct Γ x (tv (.string (sB s)))):OpJ P ⟨d,.makeInterface ts x,ty,pos,af,g⟩ Γ [] [] (λ_=>[]) (λ_=>tv (AnyV.val ti ts (.str s))):=Qay λF w A he=>⟨_,by simp[execOp,Instr.makeInterface,run_underlying ht,hx.val (by simp[Op.operands]) he,AnyV.val],rfl⟩
def op_asI {ti ts:TypeId} {u:AnyV} (hne:ti≠ts) (hz:TOk P ti rI 8 (.int .i64 0)) (ht:P.underlying ti=some (.int .i64)) (hx:Fct Γ x (tv (u.val ti ts))):OpJ P ⟨d,.typeAssert x t ti true,ty,pos,af,g⟩ Γ [] [] (λ_=>[]) (λ_=>ttup [tv (.int .i64 u.asInt.1),tv (.bool u.asInt.2)]):=
 Qay λF w A he=>by
  have h:=hx.val (by simp[Op.operands]) he;obtain⟨i,hi,hz0,_⟩:=hz.info
  cases u with
  | int n=>exact⟨_,by simp[execOp,Instr.typeAssert,h,AnyV.val,run_underlying ht],[.int .i64 n,.bool true],rfl,.cons rfl (.cons rfl .nil)⟩
  | str s=>exact⟨_,by simp[execOp,Instr.typeAssert,h,AnyV.val,run_underlying ht,Ne.symm hne,zeroValue,typeInfo,hi,hz0],[.int .i64 0,.bool false],rfl,.cons rfl (.cons rfl .nil)⟩
def op_asS {ti ts:TypeId} {u:AnyV} (hne:ti≠ts) (hz:TOk P ts rS 16 (.string .empty)) (ht:P.underlying ts=some .string) (hx:Fct Γ x (tv (u.val ti ts))):OpJ P ⟨d,.typeAssert x t ts true,ty,pos,af,g⟩ Γ [] [] (λ_=>[]) (λ_=>ttup [tv (.string (sB u.asStr.1)),tv (.bool u.asStr.2)]):=
 Qay λF w A he=>by
  have h:=hx.val (by simp[Op.operands]) he;obtain⟨i,hi,hz0,_⟩:=hz.info
  cases u with
  | int n=>exact⟨_,by simp[execOp,Instr.typeAssert,h,AnyV.val,run_underlying ht,hne,zeroValue,typeInfo,hi,hz0],[.string .empty,.bool false],rfl,.cons rfl (.cons rfl .nil)⟩
  | str s=>exact⟨_,by simp[execOp,Instr.typeAssert,h,AnyV.val,run_underlying ht],[.string (sB s),.bool true],rfl,.cons rfl (.cons rfl .nil)⟩
def tfn (P:Program) (E:List Atom) {A B:Type} (Ts:A->List Ty) (Tr:B->Ty) (p:A->Option B):Ty:=⟨λF w v=>∃(f:FuncId) (Tf Tc:List Ty) (fs cs:List Value),v=.func (.func f) fs.toArray cs.toArray/\QS Tf F w fs/\QS Tc F w cs/\Qh P f/\∀x b,p x=some b->FnOk P f (Tf++(Ts x++Tc)) E (λ_=>[]) (λ_=>Tr b),λhF hh ⟨f,Tf,Tc,fs,cs,h,h1,h2,r⟩=>⟨f,Tf,Tc,fs,cs,h,QS.keep hF hh h1,QS.keep hF hh h2,r⟩⟩
def QeQ {E:List Atom} {A B:Type} {Ts:A->List Ty} {Tr:B->Ty} {p:A->Option B} {f:FuncId} {Tc:List Ty} (hc:Qh P f) (h:∀x b,p x=some b->FnOk P f (Ts x++Tc) E (λ_=>[]) (λ_=>Tr b)):∀F w v,(QaZ f Tc).ok F w v->(tfn P E Ts Tr p).ok F w v:=λ_ _ _ ⟨cs,hv,hcs⟩=>⟨f,[],Tc,[],cs,hv,.nil,hcs,hc,h⟩
def Qb1 {E:List Atom} {A B:Type} {Ts:A->List Ty} {Tr:B->Ty} {p:A->Option B}:One (tfn P E Ts Tr p):=λ_ _ _ ⟨_,_,_,_,_,h,_⟩=>by rw[h];rfl
def QuM {f:Operand} {fid:FuncId} {fs caps:List Value} {xs:List Operand} {ts:Array TypeId} {w:World} {a:Act} (hc:Qh P fid) (hf:a.eval f=.func (.func fid) fs.toArray caps.toArray):
  (execOp a.eval (⟨d,.call { callee:=.value f,args:=xs.toArray,argTypes:=ts },ty,pos,af,g⟩:Oper)).run P w=.ok (.enter fid (fs++(xs.map a.eval++caps)).toArray) w:=by
 obtain⟨fn,h1,h2,h3⟩:=hc;simp only[execOp,resolve,Deferred.ofValue,hf,invoke,callFunc,Sem.run_bind,Sem.run_pure,run_program,Zm,h1,h2,h3,ZB,if_false,map_toArray];simp
end
def QiQ {α:Type} (R:Rep α) {x:α}:∀T,T∈R.cs x->One T:=λT h=>R.one x T h
def QiR {Ts Us:List Ty} (h:∀T,T∈Ts->One T) (k:∀T,T∈Us->One T):∀T,T∈Ts++Us->One T:=λT hT=>(Zt.1 hT).elim (h T) (k T)
@[reducible] def rAgg (Us : List Ty) (h : ∀ T,T ∈ Us -> One T) : Rep Unit := ⟨λ_ => Us,Us.length,true,λ_ => rfl,λ_ => h,λh => by cases h⟩
theorem tokA {P:Program} {t:TypeId} {α:Type} {R:Rep α} {b:Nat} {z:Value} (hz:TOk P t R b z) {Us:List Ty} (h:∀T,T∈Us->One T) (hn:Us.length=R.n) (ha:R.agg=true):TOk P t (rAgg Us h) b z:=⟨by obtain⟨d,h1,h2⟩:=hz.d;exact⟨d,h1,h2.trans ha⟩,by show _=some (some z,Us.length,b);rw[hn];exact hz.i,by show _=Us.length;rw[hn];exact hz.zc⟩
def gh (x:Value) (i:Nat):Value:=match x with | .tuple a=>a.getD i undef | _=>undef
section
variable {Γ:List (Nat×Ty)} {P:Program} {d:Option Tmp} {ty:TypeId} {pos:String} {af:Array Edge} {g:Option (Nat×Bool)} {x y:Operand} {T:Ty} {t e:TypeId} {α:Type} {R:Rep α} {bytes:Nat} {z:Value}
def Fct.nilV:Fct Γ (.const (.slice none 0 0)) (rVal.ty nilV):=λ_ _ _ _=>⟨rfl,rfl⟩
def Qa0 {Ts:List Ty} {q u:Value} {off:Nat} (hz:TOk P t rVal bytes z) (hp:Fct Γ x (tv (padd q off))) (h:rVal.cs u=(Ts.drop off).take (rVal.cs u).length):OpJ P ⟨d,.load t x,ty,pos,af,g⟩ Γ [box Ts q] [] (λ_=>[]) (λ_=>tv u):=Ql8 (Qjo (R:=rVal) (u:=u) hz hp h) (λ_ _ _ _ h=>h.1)
def Qda {q u':Value} {xs:List α} {Ts:List Ty} (hz:TOk P t rVal bytes z) (hp:Fct Γ x (tv q)) (hx:Fct Γ y (tv u')) (hl:1<=Ts.length):OpJ P ⟨d,.store t x y,ty,pos,af,g⟩ Γ [own R e xs u'] [box Ts q] (λ_=>[box (splice Ts 0 (rVal.cs u')) q]) (λ_=>tany):=.say (A:=own R e xs u') (by simp) (λ_ _ h=>QhD h) λhu=>(Qbe (R:=rVal) (a:=u') (Ts:=Ts) hz hp (hx.Xp λ_ _ _ h=>⟨h,hu⟩) hl).Xr (λA hA=>by cases hA)
def QfJ {q u':Value} {xs:List α} {Ts:List Ty} {off:Nat} (hz:TOk P t rVal bytes z) (hp:Fct Γ x (tv (padd q off))) (hx:Fct Γ y (tv u')) (hl:off+1<=Ts.length):OpJ P ⟨d,.store t x y,ty,pos,af,g⟩ Γ [own R e xs u'] [box Ts q] (λ_=>[box (splice Ts off (rVal.cs u')) q]) (λ_=>tany):=.say (A:=own R e xs u') (by simp) (λ_ _ h=>QhD h) λhu=>(Qns (R:=rVal) (a:=u') (Ts:=Ts) (off:=off) hz hp (hx.Xp λ_ _ _ h=>⟨h,hu⟩) hl).Xr (λA hA=>by cases hA)
def Qfa {β:Type} {R2:Rep β} {f:β} {xs:List α} {u:α} {v:Value} {i:Int} {off:Nat} (hz:TOk P t R2 bytes z) (hp:Fct Γ x (tv (padd (Qbi v (i.toNat * R.n)) off))) (h:idx xs i=some u) (hf:R2.cs f=((R.cs u).drop off).take (R2.cs f).length):
  OpJ P ⟨d,.load t x,ty,pos,af,g⟩ Γ [own R e xs v] [] (λ_=>[]) (λ_=>R2.ty f):=
 Qdk λM w a hU he=>by
  have hv:=hp.val (by simp[Op.operands]) he;obtain⟨us,hc,hh⟩:=Qtr (hU _ (Zh.2 rfl));unfold idx at h;split at h
  ·have hlt:i.toNat<xs.length:=(Zg.1 h).1;rcases hh with⟨_,hn⟩ | ⟨b,cap,hvv,hcell⟩
   ·rw[hn] at hlt;simp at hlt
   ·subst hvv;have hrow:Row (xs.flatMap R.cs) (free M w) w b 0:=λj T hj=>by
     have hlt:j<us.length:=by rw[hc.1];exact (Zg.1 hj).1
     exact⟨us[j],by rw[Nat.zero_add];exact hcell j _ (Zb hlt),hc.2 j T _ hj (Zb hlt)⟩
    have hr:=((hrow.elem h).part off).head hf;rw[Nat.zero_add] at hr;obtain⟨v',hrun,hty⟩:=Qfj hz hr;refine⟨v',?_,hty⟩;simp only[execOp,hv,Qbi,padd,QaU,Sem.run_bind,Nat.zero_add] at hrun ⊢;simp only[hrun,Zm,Sem.run_pure]
  ·cases h
def OpJ.roE {o:Oper} {U E:List Atom} {xs:List α} (h:OpJ P o Γ U E (λv=>[own R e xs v]) (λv=>tv v)):OpJ P o Γ U E (λ_=>[]) (λ_=>tsl R xs):=by
 intro M w a hM hU hE hap hUE he;refine (h M w a hM hU hE hap hUE he).mono ?_;rintro v w' ⟨x,hs,hm,hv⟩;have hv:v=x:=hv;subst hv;have hok:=hm.ok _ (Zh.2 rfl);refine⟨undef,hs,Qfi,?_⟩;have hfree:∀k,(own R e xs v).fp k->free (next M E []) w' k:=by
  intro k hk;obtain⟨h1,h2⟩:=hm.place _ (Zh.2 rfl) k hk;refine⟨h2,?_⟩;rintro (⟨hm1,hm2⟩ | ⟨A,hA,_⟩)
  ·rcases h1 with h1 | h1
   ·exact hm2 h1
   ·have:=hM k hm1;omega
  ·cases hA
 have hsub:∀k,free (next M E [own R e xs v]) w' k->free (next M E []) w' k:=by
  rintro k ⟨h1,h2⟩;refine⟨h1,?_⟩;rintro (hm1 | ⟨A,hA,_⟩)
  ·exact h2 (.inl hm1)
  ·cases hA
 exact QbP.own (x:=.tmp 0) (Γ:=[(0,tv v)]) (U:=[own R e xs v]) (R:=R) (e:=e) (xs:=xs) (v:=v) (Fct.t 0 rfl) (by simp) _ _ w' ⟨#[v],[]⟩ hsub (λA hA=>by simp at hA;subst hA;exact⟨hok,hfree⟩) (λp hp _=>by simp at hp;subst hp;rfl)
def OpJ.gloG {o:Oper} {G:Atom} (h0:∀k,¬G.fp k) {U E:List Atom} {N:Value->List Atom} {T:Value->Ty} (h:OpJ P o Γ U (G::E) N T):OpJ P o Γ (G::U) E N T:=by
 have e1:QaB (G::E)=QaB E:=by
  funext k
  refine propext ⟨?_,?_⟩
  ·rintro ⟨A,hA,hk⟩;rcases Zp.1 hA with rfl | hA
   ·exact (h0 k hk).elim
   ·exact⟨A,hA,hk⟩
  ·rintro ⟨A,hA,hk⟩;exact⟨A,by simp[hA],hk⟩
 intro M w a hM hU hE hap hUE he;refine (h M w a hM (λA hA=>hU A (by simp[hA])) (λA hA=>?_) ?_ (λA hA B hB k hk=>?_) he).mono ?_
 ·rcases Zp.1 hA with rfl | hA
  ·exact hU A (by simp)
  ·exact hE A hA
 ·exact pairwise_cons.2 ⟨λB _ k hk=>(h0 k hk).elim,hap⟩
 ·rcases Zp.1 hB with rfl | hB
  ·exact h0 k
  ·exact hUE A (by simp[hA]) B hB k hk
 ·rintro v w' ⟨x,hs,hm,ht⟩;rw[e1] at hs;have e2:∀N,next M (G::E) N=next M E N:=λN=>by funext k;simp only[next,e1]
  rw[e2] at ht;exact⟨x,hs,⟨hm.apart,λA hA k hk=>by have:=hm.place A hA k hk;rwa [e1] at this,λA hA=>by have:=hm.ok A hA;rwa [e2] at this⟩,ht⟩
def QbP.cloL {U:List Atom} {f:FuncId} {Tc Tc':List Ty} {T:Ty} (h:Fct Γ x (QaZ f Tc)) (hl:Qkn U Tc Tc') (ht:∀F w v,(QaZ f Tc').ok F w v->T.ok F w v):QbP Γ U x T:=λF F' w a hF hA h0=>by obtain⟨caps,hv,hc⟩:=h F w a h0;exact ht _ _ _ ⟨caps,hv,hl.cells hF hA hc⟩
def Qkp {E:List Atom} {A B:Type} {Ts:A->List Ty} {Tr:B->Ty} {p:A->Option B} {f:Operand} {xs:List Operand} {u:A} {b:B} {ts:Array TypeId} (hf:Fct Γ f (tfn P E Ts Tr p)) (ha:Args Γ [] xs (Ts u)) (h:p u=some b):
  OpJ P ⟨d,.call { callee:=.value f,args:=xs.toArray,argTypes:=ts },ty,pos,af,g⟩ Γ [] E (λ_=>[]) (λ_=>Tr b):=by
 intro M w a hM hU hE hap hUE he;obtain⟨fid,Tf,Tc,fs,caps,hv,hfs,hcap,hc,hok⟩:=hf.use (by simp[Op.operands,Call.operands]) he;have hargs:=ha.cells (F:=free M w) (F':=free M w) (a:=a) (λ_ h=>h) (λA hA=>by simp at hA) (λp hp hx=>he p hp (by simp[Op.operands,Call.operands,hx]));have hr:=QuM (ty:=ty) (pos:=pos) (af:=af) (g:=g) (d:=d) (xs:=xs) (ts:=ts) (w:=w) hc hv;simp only[Does,hr];refine Calls.mono (hok u b h M w _ hM hE hap (hfs.append (hargs.append hcap))) ?_;rintro en w' ⟨x0,v,hen,h⟩;exact⟨v,hen,x0,h⟩
def Qiy (xs:List Int):Str:=xs.map λn=>UInt8.ofNat n.toNat
def Q0 (s:Str):List Int:=s.map λb=>(b.toNat:Int)
def QfK:∀(s:List Int),(s.flatMap (rInt .u8).cs)=s.map λb=>tv (.int .u8 b)
 | []=>rfl
 | b::s=>by rw[flatMap_cons,QfK s];rfl
def op_s2b {s:Str} {t2:TypeId} {u:TypeDesc} (hs:P.underlying t=some u) (ht:P.underlying t2=some (.slice e)) (he:P.underlying e=some (.int .u8)) (hx:Fct Γ x (tv (.string (sB s)))):
  OpJ P ⟨d,.convert t t2 x,ty,pos,af,g⟩ Γ [] [] (λ_=>[]) (λ_=>tsl (rInt .u8) (Q0 s)):=
 Ql4 λF w a hF hen=>by
  have hv:=hx.val (by simp[Op.operands]) hen;refine⟨_,_,by simp only[execOp,hv,Sem.run_bind,Lib.run_convert_string_bytes w t t2 e (sB s) hs ht he,Zm,Sem.run_pure];rfl,?_,λF' h1 h2=>?_⟩
  ·exact⟨rfl,rfl,rfl,by rw[Lib.bytesWorld_size];omega,λk hk _=>Lib.bytesWorld_at_old w e (sB s) k hk⟩
  ·refine⟨some ⟨w.heap.size,0,none⟩,grownCap w (sB s).size 0 e,?_,?_,λ_=>⟨w.heap.size,0,rfl,h2 _ (Zx _) (by rw[Lib.bytesWorld_size];omega),λj T hj=>?_⟩⟩
   ·simp[Q0,QeP]
   ·rw[show (Q0 s).length=s.length by simp[Q0]];rw[QeP];exact grownCap_ge _ _ _ _
   ·rw[QfK] at hj;have hj':j<s.length:=by
     have:=(Zg.1 hj).1;simpa[Q0] using this
    refine⟨_,by rw[Nat.zero_add];exact Lib.bytesWorld_cell w e (sB s) j (by rw[QeP];exact hj'),?_⟩;simp only[Q0,Yv] at hj;simp[hj'] at hj;subst hj;show _=_;simp[sB,Zf,hj']
def QuN {xs:List Int} {t2:TypeId} (ht:P.underlying t=some (.slice e)) (he:P.underlying e=some (.int .u8)) (hd:P.underlying t2=some .string) (hx:Fct Γ x (tsl (rInt .u8) xs)):
  OpJ P ⟨d,.convert t t2 x,ty,pos,af,g⟩ Γ [] [] (λ_=>[]) (λ_=>tv (.string (sB (Qiy xs)))):=
 Qay λF w a hen=>by
  obtain⟨ad,cap,hv,_,hr⟩:=hx.use (by simp[Op.operands]) hen;have key:(Conv.bytesToString (.slice ad xs.length cap)).run P w=.ok (.string (sB (Qiy xs))) w:=by
   cases ad with
   | none=>
    have:xs=[]:=by
     cases xs with
     | nil=>rfl
     | cons b xs=>obtain⟨_,_,h,_⟩:=hr (by simp);cases h
    subst this;rfl
   | some A=>
    have hload:(loadCells A xs.length).run P w=.ok (xs.map λb=>Value.int .u8 b).toArray w:=by
     rcases xs with _ | ⟨b,xs⟩
     ·rfl
     ·obtain⟨bb,off,hA,_,hrow⟩:=hr (by simp);cases hA;have:=run_loadCells_list (P:=P) w ⟨bb,off,none⟩ ((b::xs).map λb=>Value.int .u8 b) (λj v hj=>by
       rw[QaU];have hj2:(((b::xs).flatMap (rInt .u8).cs))[j]?=some (tv v):=by rw[QfK];simp only[Ym,YB] at hj ⊢;obtain⟨y,h1,rfl⟩:=hj;exact⟨y,h1,rfl⟩
       obtain⟨u,hu,hty⟩:=hrow j _ hj2;have:u=v:=hty;rw[<-this];exact hu)
      simpa using this
    have hfold:∀(f:Value->ByteArray->Sem (ForInStep ByteArray)),(∀n r,f (.int .u8 n) r=pure (.yield (r.push (UInt8.ofNat n.toNat))))->∀(l:List Int) (s:ByteArray),(forIn (l.map λb=>Value.int .u8 b) s f).run P w=.ok (s++sB (Qiy l)) w:=by
     intro f hf l
     induction l with
     | nil=>intro s;simp only[Yu,forIn_nil,Sem.run_pure,Qiy];congr 1;apply ByteArray.ext;simp[sB]
     | cons b l ih=>intro s;simp only[Yf,forIn_cons,hf,Sem.run_bind,Sem.run_pure,Zm,ih];congr 1;apply ByteArray.ext;simp[Qiy,sB]
    simp only[Conv.bytesToString,Sem.run_bind,hload,Zm,forIn_toArray];rw[hfold _ (λn r=>rfl) xs .empty];simp only[Zm,Sem.run_pure];congr 2
  exact⟨_,by simp only[execOp,hv,convert,Sem.run_bind,run_underlying ht,run_underlying hd,run_underlying he,Zm,key,Sem.run_pure],rfl⟩
end
section
variable {M:Fr} {w0:World} {n:Nat} {Γ:List (Nat×Ty)} {As:List Atom} {a:Act} {w:World}
def St.Xm {α:Type} {R:Rep α} {e:TypeId} {xs:List α} {v q:Value} {Ts:List Ty} (k:Nat) (h:St M w0 n Γ (Sim.own R e xs v::box Ts q::As) a w) (hk:Ts[k]?=some (tvs v)):St M w0 n Γ (box (Ts.set k (tsl R xs)) q::As) a w:=by
 have hf:∀j,fps (box (Ts.set k (tsl R xs)) q::As) j->fps (Sim.own R e xs v::box Ts q::As) j:=by
  rintro j ⟨A,hA,hj⟩;rcases Zp.1 hA with rfl | hA
  ·exact⟨box Ts q,by simp,hj⟩
  ·exact⟨A,by simp[hA],hj⟩
 have hfree:∀j,free (hold M.m (Sim.own R e xs v::box Ts q::As)) w j->free (hold M.m (box (Ts.set k (tsl R xs)) q::As)) w j:=λj hj=>⟨hj.1,λhm=>hj.2 (hm.imp id (hf j))⟩;have hown:=h.own (Sim.own R e xs v) (by simp);have hbox:=h.own (box Ts q) (by simp);have hap:=pairwise_cons.1 h.apart;have hfp:∀j,(Sim.own R e xs v).fp j->free (hold M.m (box (Ts.set k (tsl R xs)) q::As)) w j:=by
  intro j hj;have hfr:=h.fresh _ (Zn) j hj;refine⟨hfr.2,?_⟩;rintro (hm | ⟨A,hA,hkA⟩)
  ·have:=h.m0 j hm;rcases hfr.1 with hb | hb
   ·exact this.2 hb
   ·omega
  ·rcases Zp.1 hA with rfl | hA
   ·exact hap.1 (box Ts q) (by simp) j hj hkA
   ·exact hap.1 A (by simp[hA]) j hj hkA
 have hsl:(tsl R xs).ok (free (hold M.m (box (Ts.set k (tsl R xs)) q::As)) w) w v:=QbP.own (x:=.tmp 0) (Γ:=[(0,tv v)]) (U:=[Sim.own R e xs v]) (R:=R) (e:=e) (xs:=xs) (v:=v) (Fct.t 0 rfl) (by simp) _ _ w ⟨#[v],[]⟩ hfree (λA hA=>by simp at hA;subst hA;exact⟨hown,hfp⟩) (λp hp _=>by simp at hp;subst hp;rfl);refine⟨h.size,h.defers,h.grow,h.m0,?_,?_,?_,λp hp=>p.2.keep hfree (λ_ _=>rfl) (h.Xq p hp)⟩
 ·intro A hA;rcases Zp.1 hA with rfl | hA
  ·obtain⟨b,cur,e',hq,hb,hc,h1⟩:=hbox;refine⟨b,cur,e',hq,hb,⟨by rw[hc.1];simp,λj T u hT hu=>?_⟩,h1⟩;by_cases hj:k=j
   ·subst hj;have hlt:k<Ts.length:=(Zg.1 hk).1;simp[hlt] at hT;subst hT;have hu':u=v:=(hc.2 k _ u hk hu).1;rw[hu'];exact hsl
   ·rw[getElem?_set_ne hj] at hT;exact T.keep hfree (λ_ _=>rfl) (hc.2 j T u hT hu)
  ·exact A.keep hfree (λ_ _=>rfl) (λ_ _=>rfl) (h.own A (by simp[hA]))
 ·intro A hA j hj;rcases Zp.1 hA with rfl | hA
  ·exact h.fresh (box Ts q) (by simp) j hj
  ·exact h.fresh A (by simp[hA]) j hj
 ·have h2:=pairwise_cons.1 hap.2;exact pairwise_cons.2 ⟨λB hB j hj=>h2.1 B hB j hj,h2.2⟩
end
def Qdn {x:Value}:One (tvs x):=λF w v hv=>by obtain⟨h1,h2⟩:=hv;rw[h1];exact h2
def tfo {β:Type} (T:β->Ty) (p:Option β):Ty:=match p with | none=>tv .nilFunc | some f=>T f
def QfL {β:Type} {T:β->Ty} {p:Option β} (h:∀f,One (T f)):One (tfo T p):=by
 cases p with
 | none=>exact Q9 rfl
 | some f=>exact h f
def Qma {A B:Type} (p:Option (A->Option B)) (u:A):Option B:=p.bind λf=>f u
def Qsy {P:Program} {M:Fr} {M0:Blk} {w0:World} {n:Nat} {Γ:List (Nat×Ty)} {As:List Atom} {a:Act} {w:World} {fn:Func} {rs:List ResultVar} {Ts:List Ty} {E:List Atom} {N:Value->List Atom} {T:Value->Ty} (x:Value) (is:List Nat) (hpl:QbI M0 E M) (hst:St M w0 n Γ As a w) (hrs:fn.results=rs.toArray) (h:Qdm P Γ As rs Ts) (hd:Qby is=true) (hN:is.filterMap (λi=>As[i]?)=N x) (hT:T x=QhS Ts):Ret P fn M0 E w0 N T .normal a w:=QeN x is hpl hst hrs h hd hN hT
def Qtu {F:Blk} {w:World}:∀{Ts:List Ty} {us:List Value} (_:QS Ts F w us) (vs:List Value),Ts=vs.map tv->(tv (.agg vs.toArray)).ok F w (.agg us.toArray)
 | Ts,us,hc,vs,h=>by
  subst h;have:us=vs:=by
   refine ext_getElem? λj=>?_;have hl:us.length=vs.length:=by simpa using hc.1
   rcases Nat.lt_or_ge j vs.length with hj | hj
   ·have:=hc.2 j (tv vs[j]) us[j] (by simp[hj]) (Zb (by omega));rw[Zb (by omega),Zb hj];exact Ya some this
   ·rw[getElem?_eq_none (by omega),getElem?_eq_none hj]
  subst this;rfl
def gloA (l:List (Nat×List Ty)):Atom:=⟨λ_=>False,λF w=>∀p∈l,F p.1/\∃cur e fz,w.heap[p.1]?=some (.cells cur e fz)/\QS p.2 F w cur.toList,λhF hh _ h p hp=>⟨hF _ (h p hp).1,let⟨cur,e,fz,h1,h2⟩:=(h p hp).2;⟨cur,e,fz,by rw[hh _ (h p hp).1];exact h1,h2.keep hF hh⟩⟩⟩
def Qmb (G:Atom) (g:Nat) (Ts:List Ty):Prop:=∀F w,G.ok F w->F g/\∃cur e fz,w.heap[g]?=some (.cells cur e fz)/\QS Ts F w cur.toList
def Qlm (G:Atom) (g:Nat) (Ts:List Ty):Prop:=∀F w,G.ok F w->F g/\Row Ts F w g 0
def Qou {l:List (Nat×List Ty)} {g:Nat} {Ts:List Ty} (h:(g,Ts)∈l):Qmb (gloA l) g Ts:=λ_ _ hg=>hg (g,Ts) h
def Qmb.has {G:Atom} {g:Nat} {Ts:List Ty} (h:Qmb G g Ts):Qlm G g Ts:=λF w hg=>by
 obtain⟨h1,cur,e,fz,h2,h3⟩:=h F w hg;refine⟨h1,λj T hj=>?_⟩;have hlt:j<cur.toList.length:=by rw[h3.1];exact (Zg.1 hj).1
 refine⟨cur.toList[j],?_,h3.2 j T _ hj (Zb hlt)⟩;have:j<cur.size:=by simpa using hlt
 simp[World.cell?,h2,this]
def Qcb:List (Value×Value)->Int->Option Value
 | [],_=>none
 | (.int .i64 k,v)::es,i=>if i=k then some v else Qcb es i
 | _::es,i=>Qcb es i
def QiS (es:List (Value×Value)):Bool:=es.all λp=>match p.1 with | .int .i64 _=>true | _=>false
def Qmc (es:List (Value×Value)):Ty:=⟨λF w v=>∃r ms c,v=.map (some r)/\F r/\w.heap[r]?=some (.map ms c)/\QiS (ms.toList.map λe=>(e.key,e.val))=true/\∀i,Qcb (ms.toList.map λe=>(e.key,e.val)) i=Qcb es i,λhF hh ⟨r,ms,c,h1,h2,h3,h4⟩=>⟨r,ms,c,h1,hF r h2,by rw[hh r h2];exact h3,h4⟩⟩
def Qzs {es:List (Value×Value)}:One (Qmc es):=λ_ _ _ ⟨_,_,_,h,_⟩=>by rw[h];rfl
@[reducible] def rMapC (es : List (Value × Value)) : Rep Unit := ⟨λ_ => [Qmc es],1,false,λ_ => rfl,λ_ => Qx Qzs Qak,λ_ => rfl⟩
section
variable {Γ:List (Nat×Ty)} {P:Program} {d:Option Tmp} {ty:TypeId} {pos:String} {af:Array Edge} {g:Option (Nat×Bool)} {x y:Operand} {T:Ty} {t e:TypeId} {α:Type} {R:Rep α} {bytes:Nat} {z:Value} {G:Atom}
def Qxf {k:Nat} {u:α} {Ts:List Ty} (hG:Qlm G k Ts) (hz:TOk P t R bytes z) (h:R.cs u=Ts.take (R.cs u).length):OpJ P ⟨d,.load t (.global k),ty,pos,af,g⟩ Γ [G] [] (λ_=>[]) (λ_=>R.ty u):=Qdk λM w a hU he=>by obtain⟨_,hr⟩:=hG _ _ (hU _ (Zh.2 rfl));obtain⟨v,hrun,hty⟩:=Qfj hz (hr.head h);refine⟨v,?_,hty⟩;have e:a.eval (.global k)=.pointer (some ⟨k,0,none⟩):=rfl;simp only[execOp,e,Sem.run_bind,hrun,Zm,Sem.run_pure]
def Qxg {k n:Nat} {kk:IntKind} {i:Int} {xs:List α} {u:α} {Ts:List Ty} (ht:P.underlying t=some (.array n e)) (hz:TOk P e R bytes z) (hG:Qlm G k Ts) (hT:Ts=xs.flatMap R.cs) (hi:Fct Γ y (tv (.int kk i))) (hn:xs.length=n) (h:idx xs i=some u):
  OpJ P ⟨d,.indexAddr t (.global k) y,ty,pos,af,g⟩ Γ [G] [] (λ_=>[]) (λ_=>tptr (R.cs u)):=
 Qdk λM w a hU he=>by
  obtain⟨hF,hr⟩:=hG _ _ (hU _ (Zh.2 rfl));subst hT;have h2:=hi.val (by simp[Op.operands]) he;have e:a.eval (.global k)=.pointer (some ⟨k,0,none⟩):=rfl;unfold idx at h;split at h
  ·rename_i h0;have hlt:i.toNat<xs.length:=(Zg.1 h).1;refine⟨_,?_,k,0+i.toNat * R.n,rfl,hF,hr.elem h⟩;simp only[execOp,e,h2,Sem.run_bind,Qll ht hz w h0 (show i<(n:Int) by omega),Zm,Sem.run_pure]
  ·cases h
def Qxh {E:List Atom} {A B:Type} {Ts:A->List Ty} {Tr:B->Ty} {β:Type} {q:β->A->Option B} {p:Option β} {f:Operand} {xs:List Operand} {u:A} {b:B} {ts:Array TypeId} (hf:Fct Γ f (tfo (λr=>tfn P E Ts Tr (q r)) p)) (ha:Args Γ [] xs (Ts u)) (h:(p.bind λr=>q r u)=some b):
  OpJ P ⟨d,.call { callee:=.value f,args:=xs.toArray,argTypes:=ts },ty,pos,af,g⟩ Γ [] E (λ_=>[]) (λ_=>Tr b):=by
 cases p with
 | none=>cases h
 | some r=>exact Qkp (p:=q r) hf ha h
def QmD (i:Int):∀(ms:List MapEntry) (n:Nat),QiS (ms.map λe=>(e.key,e.val))=true->
  (Instr.findNow (.int .i64) (.int .i64 i) ms n).map (Option.map (·.2))=some (Qcb (ms.map λe=>(e.key,e.val)) i)
 | [],n,_=>rfl
 | m::ms,n,h=>by
  simp only[Yf,QiS,all_cons,Zi] at h;obtain⟨h1,h2⟩:=h;have ih:=QmD i ms (n+1) h2
  cases hk:m.key with
  | int k j=>
   rw[hk] at h1;cases k<;>simp at h1;simp only[Instr.findNow,hk,Instr.sameNow,if_true,Yf,Qcb];by_cases hij:i=j
   ·subst hij;simp
   ·have:(i==j)=false:=by simpa using hij
    simp only[this,Zd hij];exact ih
  | _=>rw[hk] at h1;simp at h1
def Qxi {es:List (Value×Value)} {i:Int} {kt et:TypeId} {V:Option Value->Ty} (ht:P.underlying t=some (.map kt et)) (hk:P.underlying kt=some (.int .i64)) (hz:(P.info? et).bind (·.zero)=some z)
  (hx:Fct Γ x (Qmc es)) (hi:Fct Γ y (tv (.int .i64 i))) (hV:∀F w,(V (Qcb es i)).ok F w ((Qcb es i).getD z)):OpJ P ⟨d,.lookup t x y true,ty,pos,af,g⟩ Γ [] [] (λ_=>[]) (λ_=>ttup [V (Qcb es i),tv (.bool (Qcb es i).isSome)]):=
 Qay λF w A he=>by
  obtain⟨r,ms,c,hv,_,hh,hks,hms⟩:=hx.use (by simp[Op.operands]) he;have h2:=hi.val (by simp[Op.operands]) he;obtain⟨ti,hti,hzz⟩:∃ti,P.info? et=some ti/\ti.zero=some z:=by
   cases h:P.info? et with
   | none=>simp[h] at hz
   | some ti=>exact⟨ti,rfl,by simpa[h] using hz⟩
  have hzv:(zeroValue et).run P w=.ok z w:=by simp[zeroValue,typeInfo,hti,hzz]
  have hf:=QmD i ms.toList 0 hks;rw[hms] at hf;have hck:∀b n,(Instr.checkKey b (n+1) kt (.int .i64 i)).run P w=.ok () w:=λb n=>by simp[Instr.checkKey,run_underlying hk]
  have hobj:(getObj r).run P w=.ok (.map ms c) w:=by simp[getObj,Sem.run,hh]
  cases hn:Instr.findNow (.int .i64) (.int .i64 i) ms.toList 0 with
  | none=>rw[hn] at hf;cases hf
  | some o=>
   rw[hn] at hf;simp only[Yb,ZV] at hf;refine⟨.tuple #[(Qcb es i).getD z,.bool (Qcb es i).isSome],?_,[(Qcb es i).getD z,.bool (Qcb es i).isSome],rfl,.cons (hV F w) (.cons rfl .nil)⟩;rw[<-hf]
   cases o with
   | none=>simp only[execOp,hv,h2,Instr.lookup,Sem.run_bind,run_underlying ht,Zm,hobj,Sem.run_pure,hck _ 9999,Instr.findKey,run_underlying hk,hn,hzv,Option.map_none,Option.getD_none,Option.isSome_none,if_true]
   | some q=>simp only[execOp,hv,h2,Instr.lookup,Sem.run_bind,run_underlying ht,Zm,hobj,Sem.run_pure,hck _ 9999,Instr.findKey,run_underlying hk,hn,Yb,Yg,Option.isSome_some,if_true]
end
def QnA (A B:Atom):Atom:=⟨λk=>A.fp k\/B.fp k,λF w=>A.ok F w/\B.ok F w/\∀k,A.fp k->¬B.fp k,λhF hh hf h=>⟨A.keep hF hh (λk hk=>hf k (.inl hk)) h.1,B.keep hF hh (λk hk=>hf k (.inr hk)) h.2.1,h.2.2⟩⟩
def tbp (q:Value):Ty:=⟨λ_ _ v=>(v=.pointer none\/v=q)/\v.oneCell'=true,λ_ _ h=>h⟩
def boxT (t:TypeId) (Ts:List Ty) (p:Value):Atom:=⟨λk=>p=.pointer (some ⟨k,0,none⟩),λF w=>∃b cur,p=.pointer (some ⟨b,0,none⟩)/\w.heap[b]?=some (.cells cur t (0,0))/\QS Ts F w cur.toList/\∀u∈cur.toList,u.oneCell'=true,λhF hh hf ⟨b,cur,hp,hb,hc,h1⟩=>⟨b,cur,hp,by rw[hf b hp];exact hb,hc.keep hF hh,h1⟩⟩
def bldE (tb e:TypeId) (l:Str) (q v:Value):Atom:=QnA (boxT tb [tbp q,tvs v] q) (own (rInt .u8) e (Q0 l) v)
section
variable {M:Fr} {M0:Blk} {w0:World} {n:Nat} {Γ:List (Nat×Ty)} {As:List Atom} {a:Act} {w:World} {A B:Atom}
def fps2:∀k,fps (A::B::As) k↔fps (QnA A B::As) k:=by
 intro k;constructor
 ·rintro ⟨C,hC,hk⟩;rcases Zp.1 hC with rfl | hC
  ·exact⟨_,Zn,.inl hk⟩
  ·rcases Zp.1 hC with rfl | hC
   ·exact⟨_,Zn,.inr hk⟩
   ·exact⟨C,by simp[hC],hk⟩
 ·rintro ⟨C,hC,hk⟩;rcases Zp.1 hC with rfl | hC
  ·rcases hk with hk | hk
   ·exact⟨A,by simp,hk⟩
   ·exact⟨B,by simp,hk⟩
  ·exact⟨C,by simp[hC],hk⟩
def Qp6:hold M0 (A::B::As)=hold M0 (QnA A B::As):=by funext k;exact propext ⟨λh=>h.imp id (fps2 k).1,λh=>h.imp id (fps2 k).2⟩
def St.open2 (h:St M w0 n Γ (QnA A B::As) a w):St M w0 n Γ (A::B::As) a w:=by
 have h1:=h.own _ Zn;have hap:=pairwise_cons.1 h.apart;refine⟨h.size,h.defers,h.grow,h.m0,?_,?_,?_,?_⟩
 ·rw[Qp6];intro C hC;rcases Zp.1 hC with rfl | hC
  ·exact h1.1
  ·rcases Zp.1 hC with rfl | hC
   ·exact h1.2.1
   ·exact h.own C (by simp[hC])
 ·intro C hC k hk;rcases Zp.1 hC with rfl | hC
  ·exact h.fresh _ Zn k (.inl hk)
  ·rcases Zp.1 hC with rfl | hC
   ·exact h.fresh _ Zn k (.inr hk)
   ·exact h.fresh C (by simp[hC]) k hk
 ·refine pairwise_cons.2 ⟨λC hC k hk=>?_,pairwise_cons.2 ⟨λC hC k hk=>hap.1 C hC k (.inr hk),hap.2⟩⟩;rcases Zp.1 hC with rfl | hC
  ·exact h1.2.2 k hk
  ·exact hap.1 C hC k (.inl hk)
 ·rw[Qp6];exact h.Xq
def St.close2 (h:St M w0 n Γ (A::B::As) a w):St M w0 n Γ (QnA A B::As) a w:=by
 have hap:=pairwise_cons.1 h.apart;have hap2:=pairwise_cons.1 hap.2;refine⟨h.size,h.defers,h.grow,h.m0,?_,?_,?_,?_⟩
 ·rw[<-Qp6];intro C hC;rcases Zp.1 hC with rfl | hC
  ·exact⟨h.own A (by simp),h.own B (by simp),hap.1 B (by simp)⟩
  ·exact h.own C (by simp[hC])
 ·intro C hC k hk;rcases Zp.1 hC with rfl | hC
  ·rcases hk with hk | hk
   ·exact h.fresh A (by simp) k hk
   ·exact h.fresh B (by simp) k hk
  ·exact h.fresh C (by simp[hC]) k hk
 ·refine pairwise_cons.2 ⟨λC hC k hk=>?_,hap2.2⟩;rcases hk with hk | hk
  ·exact hap.1 C (by simp[hC]) k hk
  ·exact hap2.1 C hC k hk
 ·rw[<-Qp6];exact h.Xq
def St.swap (h:St M w0 n Γ (A::B::As) a w):St M w0 n Γ (B::A::As) a w:=h.perm (Perm.swap B A As)
end
section
variable {Γ:List (Nat×Ty)} {P:Program} {d:Option Tmp} {ty:TypeId} {pos:String} {af:Array Edge} {g:Option (Nat×Bool)} {x y:Operand} {T:Ty} {t t2 e:TypeId} {α:Type} {R:Rep α} {bytes:Nat} {z:Value}
def Qxj {tb:TypeId} {Ts:List Ty} {q:Value} {F:Blk} {w:World} (h:(boxT tb Ts q).ok F w):(box Ts q).ok F w:=by obtain⟨b,cur,hp,hb,r⟩:=h;exact⟨b,cur,tb,hp,hb,r⟩
def OpJ.rT {o:Oper} {tb:TypeId} {Ts:List Ty} {q:Value} {N:Value->List Atom} {T:Value->Ty} (h:OpJ P o Γ [box Ts q] [] N T):OpJ P o Γ [boxT tb Ts q] [] N T:=by intro M w a hM hU hE hap hUE he;refine h M w a hM (λA hA=>?_) hE hap (λA hA B hB=>by cases hB) he;obtain rfl:=Zh.1 hA;have:=hU _ (Zh.2 rfl);exact⟨Qxj this.1,this.2⟩
def op_storeT' {a:α} {Ts:List Ty} {q:Value} {off:Nat} {tb:TypeId} (hz:TOk P t R bytes z) (hp:Fct Γ x (tv (padd q off))) (hx:Fct Γ y (R.ty a)) (hl:off+R.n<=Ts.length):
  OpJ P ⟨d,.store t x y,ty,pos,af,g⟩ Γ [] [boxT tb Ts q] (λ_=>[boxT tb (splice Ts off (R.cs a)) q]) (λ_=>tany):=by
 intro M w A hM _ hE _ _ he;obtain⟨⟨b,cur,hq,hb,hc,h1⟩,hfp⟩:=hE _ (Zh.2 rfl);have hgiv:=Qdv hE;have hv:=hx.use (by simp[Op.operands]) he;have hpv:A.eval x=.pointer (some ⟨b,off,none⟩):=by rw[hp.val (by simp[Op.operands]) he,hq];simp[padd,QaU]
 have hsz:cur.size=Ts.length:=by simpa using hc.1
 have hr:(execOp A.eval (⟨d,.store t x y,ty,pos,af,g⟩:Oper)).run P w=.ok .skip (w.setRow b (splice cur.toList off (A.eval y).cells.toList).toArray):=by have hrs:=QjJ (off:=off) hz hv hb (by omega);simp only[execOp,hpv,Sem.run_bind,hrs,Zm,Sem.run_pure]
 simp only[Does,hr];have hfpb:∀{Us:List Ty} k,(boxT tb Us q).fp k↔k=b:=by intro Us k;rw[hq];exact Qnr (Ts:=Us)
 have heat:∀k,QaB [boxT tb Ts q] k↔k=b:=by intro k;rw[Qap,hfpb]
 refine⟨undef,Qey ((heat b).2 rfl),Qb6 (λk hk=>?_) ?_,trivial⟩
 ·have hk:=(hfpb k).1 hk;subst hk;refine⟨.inl ((heat _).2 rfl),?_⟩;have:=(Array.getElem?_eq_some_iff.1 hb).1;simpa using this
 ·obtain⟨hcv,h1v,_⟩:=QcF hv;refine⟨b,_,hq,setRow_heap w b cur _ tb _ hb,?_,?_⟩
  ·have hcs:=(hc.splice (off:=off) hcv (by rw[R.len];exact hl));simp only;refine hcs.Xs ?_ ?_
   ·intro k hk;refine QcT (by simp) hgiv (λB hB j hj=>?_) hk;obtain rfl:=Zh.1 hB;exact .inl ((heat j).2 ((hfpb j).1 hj))
   ·rintro k ⟨h2,h3⟩;exact setRow_other w b k _ (λe=>h3 (hgiv k ((heat k).2 e)))
  ·simpa using Qnq (off:=off) h1 h1v
def QnB {xs:List α} {Ts:List Ty} {q u':Value} {off:Nat} {tb:TypeId} (hz:TOk P t rVal bytes z) (hp:Fct Γ x (tv (padd q off))) (hx:Fct Γ y (tv u')) (hl:off+1<=Ts.length):
  OpJ P ⟨d,.store t x y,ty,pos,af,g⟩ Γ [own R e xs u'] [boxT tb Ts q] (λ_=>[boxT tb (splice Ts off (rVal.cs u')) q]) (λ_=>tany):=
 .say (A:=own R e xs u') (by simp) (λ_ _ h=>QhD h) λhu=>(op_storeT' (R:=rVal) (a:=u') (Ts:=Ts) (off:=off) hz hp (hx.Xp λ_ _ _ h=>⟨h,hu⟩) hl).Xr (λA hA=>by cases hA)
def Qpe {tb be:TypeId} {bs:Nat} (hi:(P.info? tb).map (λi=>(i.zero,i.size,i.bytes))=some (some (.agg #[.pointer none,.slice none 0 0]),2,bs)):
  OpJ P ⟨d,.alloc tb,ty,pos,af,g⟩ Γ [] [] (λp=>[bldE tb be [] p nilV]) (λp=>tv p):=by
 intro M w A hM _ _ _ _ _;obtain⟨ti,hti,hzz⟩:∃ti,P.info? tb=some ti/\ti.zero=some (.agg #[.pointer none,.slice none 0 0]):=by
  cases hx:P.info? tb with
  | none=>simp[hx] at hi
  | some i=>simp only[hx,Yb,ZV,YC] at hi;exact⟨i,rfl,hi.1⟩
 have hr:(execOp A.eval (⟨d,.alloc tb,ty,pos,af,g⟩:Oper)).run P w=.ok (.value (.pointer (some ⟨w.heap.size,0,none⟩))) (w.alloc (.cells #[.pointer none,.slice none 0 0] tb)):=by simp[execOp,Instr.alloc,zeroValue,typeInfo,hti,hzz,newVar,newRow,Value.cells]
 simp only[Does,hr];refine⟨.pointer (some ⟨w.heap.size,0,none⟩),(Step.alloc w _).mono (λ_ h=>h.elim),Qb6 (λk hk=>?_) ?_,rfl⟩
 ·have hk:k=w.heap.size:=by
   rcases hk with hk | hk
   ·exact (Qnr (Ts:=[])).1 hk
   ·cases hk
  subst hk;exact⟨.inr (Zx _),by simp⟩
 ·refine⟨⟨w.heap.size,_,rfl,heap_alloc_new w _,?_,?_⟩,⟨[],World.ownsRow_nil _ _ _ _,rfl,λj T u hT=>by simp[Q0] at hT⟩,λk _ hk=>by cases hk⟩
  ·exact .cons ⟨.inl rfl,rfl⟩ (.cons ⟨rfl,rfl⟩ .nil)
  ·intro u hu;simp at hu;rcases hu with rfl | rfl<;>rfl
def QrY {xs:List Int} {v:Value} {F F':Blk} {w:World} {s:Str} (ht:P.underlying t=some (.slice e)) (hu:P.underlying t2=some .string) (hz:TOk P e (rInt .u8) 1 (.int .u8 0))
  (ho:(own (rInt .u8) e xs v).ok F w) (hF:∀k,F k->k<w.heap.size/\¬(own (rInt .u8) e xs v).fp k) (hFF:∀k,F k->F' k) (h:rm (xs.length+s.length)=some ()):
  ∃v' w',(Builtin.append_ #[t,t2] ty #[v,.string (sB s)]).run P w=.ok v' w'/\Step (own (rInt .u8) e xs v).fp w w'/\(∀k,(own (rInt .u8) e (xs++Q0 s) v').fp k->((own (rInt .u8) e xs v).fp k\/w.heap.size<=k)/\k<w'.heap.size)/\(own (rInt .u8) e (xs++Q0 s) v').ok F' w':=by
 obtain⟨ti,hti,hzz,hs,hbb⟩:=hz.info;have hs1:ti.size=1:=hs;have hroom:xs.length+s.length<=68719476736:=by unfold rm at h;split at h<;>first | assumption | cases h
 have hsz:=QeP s;have hlen:(Q0 s).length=s.length:=by simp[Q0]
 have hnl:(Lib.strCells (sB s)).length=s.length:=by rw[Lib.strCells_length,hsz]
 have hcn:∀F w,QS ((Q0 s).flatMap (rInt .u8).cs) F w (Lib.strCells (sB s)):=by intro F w;rw[QfK];refine⟨by simp[hnl,hlen],λj T u hT hu=>?_⟩;simp only[Lib.strCells,Q0,sB,Yv,Ym,YB] at hT hu;obtain⟨c,h1,rfl⟩:=hT;obtain⟨c',h2,rfl⟩:=hu;have:some c=some c':=h1.symm.trans h2;cases this;rfl
 have hxf:(xs.flatMap (rInt .u8).cs).length=xs.length:=by rw[QfK];simp
 have hlt:∀k,(own (rInt .u8) e xs v).fp k->k<w.heap.size:=by
  intro k hk;rcases QaP ho with⟨hv,_⟩ | ⟨b,cap,cur,hv,hbk,_⟩
  ·rw[hv] at hk;cases hk
  ·rw[hv] at hk;rw[Qbn.1 hk];exact (Array.getElem?_eq_some_iff.1 hbk).1
 have hz1:(Value.int u8 0).cells.size=1:=rfl;rcases QaP ho with⟨hv,hx⟩ | ⟨gb,cap,cur,hv,hbk,h1,h2,h3,h4⟩
 ·subst hv;subst hx;by_cases hs0:s=[]
  ·subst hs0;refine⟨.slice none 0 0,w,?_,Step.refl _ _,λk hk=>(by exact absurd hk (by intro h;cases h)),?_⟩
   ·have hf:=Lib.run_firstCells_string (P:=P) w 1 (sB []);have e0:(sB []).size=0:=rfl;have e4:(⟨#[]⟩:ByteArray)=ByteArray.empty:=rfl;rw[e0] at hf;have e5:Lib.strCells (sB [])=[]:=rfl;rw[e5] at hf;simp[Builtin.append_,run_underlying ht,run_underlying hu,sizeOf,typeInfo,hti,hs1,Builtin.lenOf,e0,hf]
   ·exact⟨[],World.ownsRow_nil _ _ _ _,rfl,λj T u hT=>by simp[Q0] at hT⟩
  ·have hpos:0<s.length:=by
    rcases s with _ | ⟨b,s⟩
    ·exact (hs0 rfl).elim
    ·simp
   simp only[Zl,Nat.zero_add] at hroom;have hrun:=run_append_nil_string (P:=P) w t t2 ty e ti (.int .u8 0) ht hu hti hzz (sB s) (by rw[hsz];omega) (by rw[hsz];omega) (by rw[hsz,hbb];omega);have hge:=grownCap_ge w (sB s).size 0 e;have hle:=grownCap_le_maxLen w (sB s).size 0 e (by rw[hsz];unfold maxLen;omega);have e1:((sB s).data.map λb=>Value.int .u8 b.toNat)=(Lib.strCells (sB s)).toArray:=by apply Array.ext';simp[Lib.strCells]
   rw[e1] at hrun;refine⟨_,_,hrun,⟨rfl,rfl,rfl,by simp,λk hk _=>Go.RowKit.Below.heap_alloc w.drew _ k hk⟩,?_,?_⟩
   ·intro k hk;rw[Qbn.1 hk];exact⟨.inr (Zx _),by simp⟩
   ·rw[Ye,hsz,<-hlen];rw[hsz,<-hlen] at hge hle;refine Qfq (heap_alloc_new w.drew _) hge hle ?_ ?_
    ·rw[hlen] at hge ⊢;simp only[Array.size_append,size_toArray,size_zeroCells,hz1,hnl];show _=_ * 1;omega
    ·have e2:((Lib.strCells (sB s)).toArray++Builtin.zeroCells (Value.int .u8 0).cells (grownCap w (Q0 s).length 0 e - (Q0 s).length)).toList.take ((Q0 s).length * 1)=Lib.strCells (sB s):=by
      rw[Array.toList_append,take_left' (by rw[toList_toArray,hnl,hlen,Nat.mul_one])]
     show QS _ F' _ (take ((Q0 s).length * 1) _);rw[e2];exact hcn _ _
 ·subst hv;have h3':cur.size=cap:=by simpa using h3
  by_cases hcap:xs.length+s.length<=cap
  ·have hrun:=Lib.run_append_room_string (P:=P) w t t2 ty e ti ht hu hti hs1 gb xs.length cap cur hbk (sB s) (by rw[hsz];exact hcap) (by rw[hsz,h3'];exact hcap);refine⟨_,_,hrun,Qey (Qbn.2 rfl),?_,?_⟩
   ·intro k hk;rw[Qbn.1 hk];exact⟨.inl (Qbn.2 rfl),by simpa using (Array.getElem?_eq_some_iff.1 hbk).1⟩
   ·have el:xs.length+(sB s).size=(xs++Q0 s).length:=by rw[hsz];simp[hlen]
    rw[el];refine Qfq (setRow_heap w gb cur _ e _ hbk) (by rw[<-el,hsz];exact hcap) h2 ?_ ?_
    ·simp only[size_toArray,Ze,Yc,Ys,Array.length_toList,hnl];show _=cap * 1;omega
    ·have e2:(cur.toList.take xs.length++Lib.strCells (sB s)++cur.toList.drop (xs++Q0 s).length).take ((xs++Q0 s).length * 1)=cur.toList.take (xs.length * 1)++Lib.strCells (sB s):=by
      rw[Nat.mul_one,Nat.mul_one];refine take_left' ?_;rw[Ze,hnl,Yc,<-el,hsz];simp;omega
     show QS _ F' _ (take ((xs++Q0 s).length * 1) (toArray _).toList);rw[toList_toArray,e2,ZF];exact (h4.Xs hFF (λk hk=>setRow_other w gb k _ (λe=>(hF k hk).2 (Qbn.2 e)))).append (hcn _ _)
  ·have holds:∀j u,(cur.toList.take xs.length)[j]?=some u->w.cell? ((⟨gb,0,none⟩:Addr).add j)=some u:=by
    intro j u hu;rw[getElem?_take] at hu;split at hu
    ·rw[QaU,Nat.zero_add];simpa[World.cell?,hbk] using hu
    ·cases hu
   have holdl:(cur.toList.take xs.length).length=xs.length * ti.size:=by rw[hs1];simp;omega
   have hrun:=Lib.run_append_grow_string (P:=P) w t t2 ty e ti (.int .u8 0) ht hu hti hzz ⟨gb,0,none⟩ xs.length cap _ holdl holds (sB s) (by rw[hsz];omega) (by rw[hsz];omega) (growslice_fits (by rw[hsz];omega) (by rw[hbb,hsz];omega));have hge:=grownCap_ge w (xs.length+(sB s).size) cap e;have hle:=grownCap_le_maxLen w (xs.length+(sB s).size) cap e (by rw[hsz];unfold maxLen;omega);refine⟨_,_,hrun,⟨rfl,rfl,rfl,by simp,λk hk _=>Go.RowKit.Below.heap_alloc w.drew _ k hk⟩,?_,?_⟩
   ·intro k hk;rw[Qbn.1 hk];exact⟨.inr (Zx _),by simp⟩
   ·have el:xs.length+(sB s).size=(xs++Q0 s).length:=by rw[hsz];simp[hlen]
    rw[el] at hge hle ⊢;refine Qfq (heap_alloc_new w.drew _) hge hle ?_ ?_
    ·simp only[Array.size_append,size_toArray,size_zeroCells,hz1,holdl,hnl,hs1,Ze,hlen];simp only[Ze,hlen] at hge;show _=_ * 1;omega
    ·have e2:(((cur.toList.take xs.length).toArray++(Lib.strCells (sB s)).toArray++Builtin.zeroCells (Value.int .u8 0).cells (grownCap w (xs++Q0 s).length cap e - (xs++Q0 s).length)).toList).take ((xs++Q0 s).length * 1)=cur.toList.take (xs.length * 1)++Lib.strCells (sB s):=by
      rw[Array.toList_append,Array.toList_append,Nat.mul_one,Nat.mul_one];refine take_left' ?_;simp only[Ze,holdl,hnl,hs1,hlen,Nat.mul_one]
     show QS _ F' _ (take ((xs++Q0 s).length * 1) _);rw[e2,ZF];exact (h4.Xs hFF (λk hk=>Go.RowKit.Below.heap_alloc w.drew _ k (hF k hk).1)).append (hcn _ _)
def Qtv {xs:List Int} {v:Value} {s:Str} (ht:P.underlying t=some (.slice e)) (hu:P.underlying t2=some .string) (hz:TOk P e (rInt .u8) 1 (.int .u8 0)) (hx:Fct Γ x (tv v)) (hy:Fct Γ y (tv (.string (sB s)))) (h:rm (xs.length+s.length)=some ()):
  OpJ P ⟨d,.call { callee:=.builtin .append,args:=#[x,y],argTypes:=#[t,t2] },ty,pos,af,g⟩ Γ [] [own (rInt .u8) e xs v] (λv'=>[own (rInt .u8) e (xs++Q0 s) v']) (λv'=>tv v'):=by
 intro M w A hM _ hE _ _ he;obtain⟨ho,hfp⟩:=hE _ (Zh.2 rfl);have hgiv:=Qdv hE;have h1:=hx.val (by simp[Op.operands,Call.operands]) he;have h2:=hy.val (by simp[Op.operands,Call.operands]) he;obtain⟨v',w',hrun,hstep,hfp',hok⟩:=QrY (ty:=ty) (F:=free M w) (F':=λk=>k<w.heap.size/\¬M k) ht hu hz ho (λk hk=>⟨hk.1,λhf=>hk.2 (hfp k hf)⟩) (λk hk=>hk) h;have hexec:(execOp A.eval (⟨d,.call { callee:=.builtin .append,args:=#[x,y],argTypes:=#[t,t2] },ty,pos,af,g⟩:Oper)).run P w=.ok (.value v') w':=by simp only[execOp,resolve,invoke,builtin,Sem.run_bind,Sem.run_pure,Zm,map_toArray,Yf,Yu,h1,h2,hrun]
 simp only[Does,hexec];refine⟨v',hstep.mono (λk hk=>Qap.2 hk),Qb6 (λk hk=>⟨(hfp' k hk).1.imp Qap.2 id,(hfp' k hk).2⟩) ?_,rfl⟩;refine Atom.keep _ (λk hk=>?_) (λ_ _=>rfl) (λ_ _=>rfl) hok;refine QcT hstep.size hgiv (λB hB j hj=>?_) hk;obtain rfl:=Zh.1 hB;exact (hfp' j hj).1.imp Qap.2 id
def Qqx {xs:List α} {v:Value} (hne:xs≠[]) (hx:Fct Γ x (tv v)):OpJ P ⟨d,.call { callee:=.builtin .unsafeSliceData,args:=#[x],argTypes:=#[t] },ty,pos,af,g⟩ Γ [own R e xs v] [] (λ_=>[]) (λ_=>tv (Qbi v 0)):=
 Qdk λM w A hU he=>by
  have h1:=hx.val (by simp[Op.operands,Call.operands]) he;rcases QaP (hU _ (Zh.2 rfl)) with⟨_,hn⟩ | ⟨b,cap,cur,hv,_,hl,_⟩
  ·exact (hne hn).elim
  ·subst hv;have hc:cap≠0:=by
    have:0<xs.length:=length_pos_iff.2 hne;omega
   refine⟨.pointer (some ⟨b,0,none⟩),by simp only[execOp,resolve,invoke,builtin,Sem.run_bind,Sem.run_pure,Zm,map_toArray,Yf,Yu,h1,Lib.run_unsafeSliceData_row (P:=P) (w:=w) #[t] ty ⟨b,0,none⟩ xs.length cap hc],?_⟩;show _=_;simp[Qbi,Addr.add]
def QnC {l:Str} {v:Value} {pt it:TypeId} (hp:P.underlying pt=some (.pointer e)) (hc:P.cellsOf e=1) (hne:l≠[]) (hx:Fct Γ x (tv (Qbi v 0))) (hy:Fct Γ y (tv (.int .i64 ((Q0 l).length:Int)))):
  OpJ P ⟨d,.call { callee:=.builtin .unsafeString,args:=#[x,y],argTypes:=#[pt,it] },ty,pos,af,g⟩ Γ [] [own (rInt .u8) e (Q0 l) v] (λ_=>[]) (λ_=>tv (.string (sB l))):=by
 intro M w A hM _ hE _ _ he;obtain⟨ho,hfp⟩:=hE _ (Zh.2 rfl);have h1:=hx.val (by simp[Op.operands,Call.operands]) he;have h2:=hy.val (by simp[Op.operands,Call.operands]) he;have hlen:(Q0 l).length=l.length:=by simp[Q0]
 rw[hlen] at h2;rcases QaP ho with⟨_,hn⟩ | ⟨b,cap,cur,hv,hb,hl,hm,hs,hcells⟩
 ·have:l.length=0:=by rw[<-hlen,hn];rfl
  exact (hne (ZI this)).elim
 ·subst hv;have hrun:=Lib.run_unsafeString_row (P:=P) w pt it ty e hp hc b cur.size (by simp[World.shape?,hb]) l hne (by rw[hs,<-hlen];show _<=cap * 1;omega) (by unfold maxLen at hm;omega) (λj c hj=>by
   rw[QaU,Nat.zero_add];have hj':j<l.length:=(Zg.1 hj).1;have hT:((Q0 l).flatMap (rInt .u8).cs)[j]?=some (tv (.int .u8 (c.toNat:Int))):=by rw[QfK];simp[Q0,hj]
   have hlt:j<(cur.toList.take ((Q0 l).length * (rInt .u8).n)).length:=by rw[hcells.1];exact (Zg.1 hT).1
   have:=hcells.2 j _ _ hT (Zb hlt);have hval:cur.toList[j]?=some (.int .u8 (c.toNat:Int)):=by
    have h3:=Zb hlt;rw[show (cur.toList.take ((Q0 l).length * (rInt .u8).n))[j]=Value.int .u8 (c.toNat:Int) from this] at h3;rw[getElem?_take] at h3;split at h3
    ·exact h3
    ·cases h3
   simpa[World.cell?,hb] using hval)
  have hev:Qbi (Value.slice (some ⟨b,0,none⟩) (Q0 l).length cap) 0=.pointer (some ⟨b,0,none⟩):=by simp[Qbi,Addr.add]
  have hexec:(execOp A.eval (⟨d,.call { callee:=.builtin .unsafeString,args:=#[x,y],argTypes:=#[pt,it] },ty,pos,af,g⟩:Oper)).run P w=.ok (.value (.string ⟨l.toArray⟩)) (w.freeze ⟨b,0,none⟩ l.length):=by simp only[execOp,resolve,invoke,builtin,Sem.run_bind,Sem.run_pure,Zm,map_toArray,Yf,Yu,h1,h2,hev,hrun]
  simp only[Does,hexec];refine⟨undef,?_,Qfi,rfl⟩;have hne0:l.length≠0:=λh=>hne (ZI h);refine⟨by simp[World.freeze,hne0],by simp[World.freeze,hne0],by simp[World.freeze,hne0],by simp[World.freeze,hne0],λk hk hnk=>?_⟩;have hkb:b≠k:=λe=>hnk (Qap.2 (Qbn.2 e.symm));simp[World.freeze,hne0,Array.getElem?_modify,hkb]
end
def QbQ {α:Type} (R:Rep α) (k:Nat):Rep (α×Option Value):=
 ⟨λx=>match x.2 with | none=>R.cs x.1 | some q=>(R.cs x.1).set k (tvs q),R.n,R.agg,λx=>by cases x.2<;>simp[R.len],
  λx T h F w v hv=>by
   obtain⟨x,o⟩:=x
   cases o with
   | none=>exact R.one x T h F w v hv
   | some q=>
    rcases mem_or_eq_of_mem_set h with h | h
    ·exact R.one x T h F w v hv
    ·subst h;exact Qdn F w v hv,R.sz⟩
def Qcc {α:Type} (xs:List α) (i:Int) (q:Value):List (α×Option Value):=match idx xs i with | some u=>(xs.map λx=>(x,none)).set i.toNat (u,some q) | none=>xs.map λx=>(x,none)
section
variable {α:Type} {R:Rep α} {k:Nat} {xs:List α} {i:Int} {q:Value} {u:α} {v:Value} {e:TypeId}
def Qjq (h:idx xs i=some u):0<=i/\i.toNat<xs.length/\xs[i.toNat]?=some u:=by
 unfold idx at h;split at h
 ·exact⟨by assumption,(Zg.1 h).1,h⟩
 ·cases h
def Qkq (h:idx xs i=some u):Qcc xs i q=(xs.map λx=>(x,none)).set i.toNat (u,some q):=by unfold Qcc;rw[h]
def Qxk (h:idx xs i=some u):(Qcc xs i q).length=xs.length:=by rw[Qkq h];simp
def Qov (h:idx xs i=some u):idx (Qcc xs i q) i=some (u,some q):=by obtain⟨h0,h1,h2⟩:=Qjq h;rw[Qkq h];unfold idx;rw[Zc h0,getElem?_set_self (by simpa using h1)]
def Qxl (h:idx xs i=some u):setAt (xs.map λx=>(x,(none:Option Value))) i (u,some q)=some (Qcc xs i q):=by obtain⟨h0,h1,h2⟩:=Qjq h;rw[Qkq h];unfold setAt;rw[Zc ⟨h0,by rw[Zv];omega⟩]
def QuO (R:Rep α) (k:Nat) (e:TypeId) (xs:List α) (v:Value):own (QbQ R k) e (xs.map λx=>(x,none)) v=own R e xs v:=by
 have e1:((xs.map λx=>(x,(none:Option Value))).flatMap (QbQ R k).cs)=xs.flatMap R.cs:=by rw[flatMap_map];rfl
 unfold own;congr 1
 funext F w
 rw[e1,Zv];rfl
def Qtw {β:Type} {l:List β} {k:Nat} {x:β} (h:k<l.length):l.set k x=splice l k [x]:=by
 apply ext_getElem?;intro j;rw[Qbd _ _ _ _ (by rw[length_singleton];omega),getElem?_set];simp only[length_singleton];by_cases hj:k=j
 ·subst hj;rw[Zc rfl,Zc h,Zc ⟨Zx _,by omega⟩,Nat.sub_self];rfl
 ·rw[Zd hj,Zd (by omega)]
section
variable {Γ:List (Nat×Ty)} {P:Program} {d:Option Tmp} {ty:TypeId} {pos:String} {af:Array Edge} {g:Option (Nat×Bool)} {x y:Operand} {t:TypeId} {bytes:Nat} {z:Value} {β:Type} {R2:Rep β}
def tokH {b:Nat} (hz:TOk P t R b z):TOk P t (QbQ R k) b z:=⟨hz.d,hz.i,hz.zc⟩
def QuP {ys:List β} {e2:TypeId} (hz:TOk P t rVal bytes z) (hp:Fct Γ x (tv (padd (Qbi v (i.toNat * R.n)) k))) (hx:Fct Γ y (tv q)) (h:idx xs i=some u) (hk:k+1<=R.n):
  OpJ P ⟨d,.store t x y,ty,pos,af,g⟩ Γ [own R2 e2 ys q] [own R e xs v] (λ_=>[own (QbQ R k) e (Qcc xs i q) v]) (λ_=>tany):=
 .say (A:=own R2 e2 ys q) (by simp) (λ_ _ h=>QhD h) λhu=>by
  obtain⟨h0,h1,h2⟩:=Qjq h;have hm:idx (xs.map λx=>(x,(none:Option Value))) i=some (u,none):=by unfold idx;rw[Zc h0,Ym,h2];rfl
  have:=Qkk (R:=QbQ R k) (R2:=rVal) (xs:=xs.map λx=>(x,none)) (ys:=Qcc xs i q) (v:=v) (i:=i) (off:=k) (u0:=(u,none)) (u:=(u,some q)) (u2:=q) (e:=e) (d:=d) (ty:=ty) (pos:=pos) (af:=af) (g:=g)
   hz hp (hx.Xp λ_ _ _ h=>⟨h,hu⟩) hm (Qxl h) hk (by show (R.cs u).set k (tvs q)=splice (R.cs u) k [tvs q];exact Qtw (by rw[R.len];omega))
  rw[QuO] at this;exact this.Xr (λA hA=>by cases hA)
def Qln {e':TypeId} {j:IntKind} (ht:P.underlying t=some (.slice e)) (hz:TOk P e R bytes z) (hx:Fct Γ x (tv v)) (hi:Fct Γ y (tv (.int j i))) (h:idx xs i=some u): OpJ P ⟨d,.indexAddr t x y,ty,pos,af,g⟩ Γ [own (QbQ R k) e' (Qcc xs i q) v] [] (λ_=>[]) (λ_=>tv (Qbi v (i.toNat * R.n))):=QaY (R:=QbQ R k) ht (tokH hz) hx hi (Qov h)
def Qlo {s:TypeId} {f off m:Nat} (hf:Qy P s f off) (hp:Fct Γ x (tv (Qbi v m))) (h:idx xs i=some u):OpJ P ⟨d,.fieldAddr s x f,ty,pos,af,g⟩ Γ [own (QbQ R k) e (Qcc xs i q) v] [] (λ_=>[]) (λ_=>tv (padd (Qbi v m) off)):=QdM (R:=QbQ R k) hf hp (QgM (Qov h))
def QmQ (hz:TOk P t rVal bytes z) (hp:Fct Γ x (tv (padd (Qbi v (i.toNat * R.n)) k))) (h:idx xs i=some u) (hk:k+1<=R.n):
  OpJ P ⟨d,.load t x,ty,pos,af,g⟩ Γ [own (QbQ R k) e (Qcc xs i q) v] [] (λ_=>[]) (λ_=>tv q):=
 Ql8 (Qfa (R:=QbQ R k) (R2:=rVal) (f:=q) (off:=k) hz hp (Qov h) (by
  show [tvs q]=(((R.cs u).set k (tvs q)).drop k).take 1;have hl:k<(R.cs u).length:=by rw[R.len];omega
  rw[Yl (by simpa using hl)];simp)) (λ_ _ _ _ h=>h.1)
end
section
variable {M:Fr} {w0:World} {n:Nat} {Γ:List (Nat×Ty)} {As:List Atom} {a:Act} {w:World} {β:Type} {R2:Rep β} {ys:List β} {e2:TypeId}
def St.closeH {u':α} (hi:idx xs i=some u) (h:St M w0 n Γ (Sim.own R2 e2 ys q::Sim.own (QbQ R k) e (Qcc xs i q) v::As) a w) (hk:k+1<=R.n) (hu:R.cs u'=(R.cs u).set k (tsl R2 ys)):
  St M w0 n Γ (Sim.own R e (xs.set i.toNat u') v::As) a w:=by
 obtain⟨h0,h1,h2⟩:=Qjq hi;have hf:∀j,fps (Sim.own R e (xs.set i.toNat u') v::As) j->fps (Sim.own R2 e2 ys q::Sim.own (QbQ R k) e (Qcc xs i q) v::As) j:=by
  rintro j ⟨A,hA,hj⟩;rcases Zp.1 hA with rfl | hA
  ·exact⟨Sim.own (QbQ R k) e (Qcc xs i q) v,by simp,hj⟩
  ·exact⟨A,by simp[hA],hj⟩
 have hfree:∀j,free (hold M.m (Sim.own R2 e2 ys q::Sim.own (QbQ R k) e (Qcc xs i q) v::As)) w j->free (hold M.m (Sim.own R e (xs.set i.toNat u') v::As)) w j:=λj hj=>⟨hj.1,λhm=>hj.2 (hm.imp id (hf j))⟩;have hown:=h.own (Sim.own R2 e2 ys q) (by simp);have hbig:=h.own (Sim.own (QbQ R k) e (Qcc xs i q) v) (by simp);have hap:=pairwise_cons.1 h.apart;have hfp:∀j,(Sim.own R2 e2 ys q).fp j->free (hold M.m (Sim.own R e (xs.set i.toNat u') v::As)) w j:=by
  intro j hj;have hfr:=h.fresh _ (Zn) j hj;refine⟨hfr.2,?_⟩;rintro (hm | ⟨A,hA,hkA⟩)
  ·have:=h.m0 j hm;rcases hfr.1 with hb | hb
   ·exact this.2 hb
   ·omega
  ·rcases Zp.1 hA with rfl | hA
   ·exact hap.1 (Sim.own (QbQ R k) e (Qcc xs i q) v) (by simp) j hj hkA
   ·exact hap.1 A (by simp[hA]) j hj hkA
 have hsl:(tsl R2 ys).ok (free (hold M.m (Sim.own R e (xs.set i.toNat u') v::As)) w) w q:=QbP.own (x:=.tmp 0) (Γ:=[(0,tv q)]) (U:=[Sim.own R2 e2 ys q]) (R:=R2) (e:=e2) (xs:=ys) (v:=q) (Fct.t 0 rfl) (by simp) _ _ w ⟨#[q],[]⟩ hfree (λA hA=>by simp at hA;subst hA;exact⟨hown,hfp⟩) (λp hp _=>by simp at hp;subst hp;rfl);have hlu:(R.cs u).length=R.n:=R.len u;have hcell:∀j T,((xs.set i.toNat u').flatMap R.cs)[j]?=some T->(j=i.toNat * R.n+k/\T=tsl R2 ys/\((Qcc xs i q).flatMap (QbQ R k).cs)[j]?=some (tvs q))\/((Qcc xs i q).flatMap (QbQ R k).cs)[j]?=some T:=by
  intro j T hT;have hfl:(xs.flatMap R.cs).length=xs.length * R.n:=Qar R xs;have hfl2:((xs.map λx=>(x,(none:Option Value))).flatMap (QbQ R k).cs)=xs.flatMap R.cs:=by rw[flatMap_map];rfl
  have hin:i.toNat * R.n+R.n<=xs.length * R.n:=by have:(i.toNat+1) * R.n<=xs.length * R.n:=Nat.mul_le_mul_right _ h1;rw[Nat.add_mul] at this;omega
  have e1:=QjK (QbQ R k) (xs.map λx=>(x,(none:Option Value))) i.toNat (u,some q) (by simpa using h1);rw[hfl2] at e1;have e1':((Qcc xs i q).flatMap (QbQ R k).cs)=splice (xs.flatMap R.cs) (i.toNat * R.n) ((R.cs u).set k (tvs q)):=by rw[Qkq hi];exact e1
  rw[QjK R xs i.toNat u' h1,hu,Qbd _ _ _ _ (by rw[Yz];omega),Yz,hlu] at hT;rw[e1',Qbd _ _ _ _ (by rw[Yz];omega),Yz,hlu];by_cases hj:i.toNat * R.n<=j/\j<i.toNat * R.n+R.n
  ·rw[Zc hj] at hT ⊢;by_cases hjk:k=j - i.toNat * R.n
   ·left;refine⟨by omega,?_,?_⟩
    ·rw[<-hjk,getElem?_set_self (by omega)] at hT;exact (Zu hT).symm
    ·rw[<-hjk,getElem?_set_self (by omega)]
   ·right;rw[getElem?_set_ne hjk] at hT ⊢;exact hT
  ·rw[Zd hj] at hT ⊢;exact .inr hT
 refine⟨h.size,h.defers,h.grow,h.m0,?_,?_,?_,λp hp=>p.2.keep hfree (λ_ _=>rfl) (h.Xq p hp)⟩
 ·intro A hA;rcases Zp.1 hA with rfl | hA
  ·obtain⟨us,ho,hc⟩:=hbig;have hlen:(Qcc xs i q).length=(xs.set i.toNat u').length:=by rw[Qxk hi,Yz]
   rw[hlen] at ho;refine⟨us,ho,?_,λj T c hT hu'=>?_⟩
   ·rw[hc.1,Qar,Qar,hlen];rfl
   ·rcases hcell j T hT with⟨_,rfl,hq⟩ | hq
    ·have hcq:c=q:=(hc.2 j _ c hq hu').1;rw[hcq];exact hsl
    ·exact T.keep hfree (λ_ _=>rfl) (hc.2 j T c hq hu')
  ·exact A.keep hfree (λ_ _=>rfl) (λ_ _=>rfl) (h.own A (by simp[hA]))
 ·intro A hA j hj;rcases Zp.1 hA with rfl | hA
  ·exact h.fresh (Sim.own (QbQ R k) e (Qcc xs i q) v) (by simp) j hj
  ·exact h.fresh A (by simp[hA]) j hj
 ·have h2:=pairwise_cons.1 hap.2;exact pairwise_cons.2 ⟨λB hB j hj=>h2.1 B hB j hj,h2.2⟩
end
end
section
variable {P:Program} {ops:Array Oper} {Q:Exit->Act->World->Prop} {l n:Nat}
def Qxm {o:Oper} {a:Act} {w:World} {K:Act->World->Prop} (hd:∀c,o.op≠.defer c) (h:o.wpIn Fence.wide n P a w K Q):o.wpIn (Fence.wide.inRound l) n P a w K Q:=by
 unfold Oper.wpIn at h ⊢;refine⟨λ_ _=>trivial,?_⟩;have h:=h.2;rw[show Fence.wide.round=none from rfl,Oper.semAt_none] at h;rw[Fence.inRound_round,Oper.semAt_some l _ o hd];generalize (execOp a.eval o).run P w=r at h ⊢
 match r,h with
 | .ok (.value v) w',h=>exact h
 | .ok .skip w',h=>exact h
 | .ok (.defer d) w',h=>exact h
 | .ok (.enter f args) w',h=>exact⟨λhh=>(by cases hh),CallsIn.inRound l h.2⟩
 | .ok (.row row args) w',h=>exact⟨λhh=>(by cases hh),h.2⟩
 | .ok (.round l f tmps assign body) w',h=>exact⟨λhh=>(by cases hh),h.2⟩
 | .halt (.panic v) w',h=>exact h
def QnD {i:Nat} {a:Act} {w:World} {K:Act->World->Prop} (hd:∀(i:Nat) (o:Oper),ops[i]?=some o->∀c,o.op≠.defer c) (h:wpOpIn Fence.wide n P ops Q i K a w):wpOpIn (Fence.wide.inRound l) n P ops Q i K a w:=by
 unfold wpOpIn at h ⊢
 cases ho:ops[i]? with
 | none=>rw[ho] at h;exact h
 | some o=>
  rw[ho] at h;dsimp only at h ⊢;split
  ·rename_i hw;rw[Zc hw] at h;exact Qxm (hd i o ho) h
  ·rename_i hw;rw[Zd hw] at h;exact⟨λ_ _=>trivial,h.2⟩
def Qpf (hd:∀(i:Nat) (o:Oper),ops[i]?=some o->∀c,o.op≠.defer c):∀(is:List Nat) (a:Act) (w:World),wpOpsIn Fence.wide n P ops Q is a w->wpOpsIn (Fence.wide.inRound l) n P ops Q is a w
 | [],_,_,h=>h
 | i::is,a,w,h=>by rw[wpOpsIn_cons] at h ⊢;exact wpOpIn_mono (λa w h=>Qpf hd is a w h) (QnD hd h)
def Qpg (hd:∀(i:Nat) (o:Oper),ops[i]?=some o->∀c,o.op≠.defer c):∀(fuel:Nat) (listed:Array Bool) (a:Act) (w:World),wpAnyIn Fence.wide n P .any ops Q fuel listed a w->wpAnyIn (Fence.wide.inRound l) n P .any ops Q fuel listed a w
 | 0,_,_,_,h=>h
 | fuel+1,listed,a,w,h=>⟨h.1,λi hi=>wpOpIn_mono (λa w h=>Qpg hd fuel _ a w h) (QnD hd (h.2 i hi))⟩
def QnE {Inv:(Nat->Bool)->Act->World->Prop} {id:Nat} {draw:Bool} {a:Act} {w:World} (hm:draw=true->P.follows .mixedOrders=true) (hd:∀(i:Nat) (o:Oper),ops[i]?=some o->∀c,o.op≠.defer c)
  (hs:QiN P ops Q Inv) (hac:Acyc ops) (fin:∀S a w,(∀i,i<ops.size->S i=true)->Inv S a w->Q .normal a w)
  (h0:∀w',w'=w\/w'=w.drew->Inv (λ_=>false) a w'):(Code.region id ops draw).wpIn (Fence.wide.inRound l) 0 P Q a w:=by
 cases draw with
 | false=>refine wpIn_region (Qpf hd _ _ _ ?_);rw[range_eq_range'];exact Qsr hs hac fin ops.size 0 (by omega) a w (by simpa using h0 w (.inl rfl))
 | true=>
  refine wpIn_region_any (hm rfl) (Qpg hd _ _ _ _ ?_);refine Qss hs hac fin ops.size _ a _ (by simp) ?_ ?_
  ·unfold Qi1;have:=countP_le_length (p:=λb=>!b) (l:=(Array.replicate ops.size false).toList);simpa using this
  ·have e:(λj=>(Array.replicate ops.size false).getD j false)=λ_=>false:=by
    funext j
    simp only[Array.getD_eq_getD_getElem?,Array.getElem?_replicate];split<;>rfl
   rw[e];exact h0 w.drew (.inr rfl)
end
def Qzt {P:Program} {ops:List Oper} {M:Fr} {w0:World} {n l:Nat} {Γ:List (Nat×Ty)} {As:List Atom} {a:Act} {w:World} {id:Nat} {draw:Bool} {Q:Exit->Act->World->Prop} {is:List Info} (hm:P.follows .mixedOrders=true) (hd:∀o∈ops,∀c,o.op≠.defer c) (Ns:List Ver)
  (hst:St M w0 n Γ As a w) (hrun:∀new,Run P ops (verA As Ns) new 0 Γ ops is) (hchk:chk ops is ((verA As Ns).map (·.ds)) (Γ.map (·.1)) As.length (verA As Ns).length n=true)
  (hQ:∀new a' w',St M w0 n (outG ops is Γ new) (Qef (verA As Ns) is new) a' w'->Q .normal a' w'):(Code.region id ops.toArray draw).wpIn (Fence.wide.inRound l) 0 P Q a w:=
 Qnk _ is (λ_ hs hac fin h0=>QnE (λ_=>hm) (λi o ho=>hd o (Zr (by simpa using ho))) hs hac fin h0) hst hrun (λu A h x=>Qqs As Ns u A h x) hchk hQ

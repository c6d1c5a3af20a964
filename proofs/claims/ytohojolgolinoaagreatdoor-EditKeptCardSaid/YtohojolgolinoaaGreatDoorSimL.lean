/- The logic's twelfth part. No condition. -/
import Derived.Test.YtohojolgolinoaaGreatDoorSimG
import Derived.Lib.ConvBytes
import Derived.Lib.AppendStr
import Derived.Lib.UnsafeStr
import Derived.Lib.Builder
import Derived.Laws.Externs
import Derived.RangeFuncNested
import Derived.RangeFuncCalls
import Derived.TacticsInMore
import Derived.OrdersIn
set_option linter.all false
open List Go.IntKind
namespace Go.Sim
variable {α:Type} {xs:List α} {Ts:List Ty} {i:Int} {w:World} {ys:List α} {v:Value} {E:List Atom} {F:Blk} {off:Nat} {R:Rep α} {ta:Array TypeId} {j:Int} {A B:Type} {P:Program} {β:Type} {ts:Array TypeId} {N:Value->List Atom} {t2:TypeId} {xss:List (List α)} {U:List Atom} {Γ:List (Nat×Ty)} {Us:List Ty} {u':Value} {Tc:List Ty} {lo hi:Option Operand} {T:Value->Ty} {Q:Exit->Act->World->Prop} {w0:World} {As:List Atom} {es:List (Value×Value)} {K:Act->World->Prop} {draw:Bool} {d:Option Tmp} {ty:TypeId} {pos:String} {af:Array Edge} {g:Option (Nat×Bool)} {x y:Operand} {t e:TypeId} {bytes:Nat} {z:Value} {n:Nat} {M:Fr} {a:Act} {e2:TypeId} {R2:Rep β}
@[reducible] def ti (x : Int) : Ty := tv (.int .i64 x)
@[reducible] def tb (x : Bool) : Ty := tv (.bool x)
def Xk (As:List Atom) (c:List Nat):List Atom:=c.filterMap λi=>As[i]?
def Vm {As:List Atom} (c:BA As) {m:List Nat} (s:Bj m=true):BA (Xk As m):=by
 unfold BA Xk at *;rw[pairwise_filterMap];refine (show m.Pairwise (·≠·) from Jh s).imp ?_;intro i j o A hA B C k p f;rw[pairwise_iff_getElem] at c;obtain⟨hi,rfl⟩:=Zf.1 hA;obtain⟨r,rfl⟩:=Zf.1 C;rcases Nat.lt_trichotomy i j with h | h | h
 ·exact c i j hi r h k p f
 ·exact o h
 ·exact c j i r hi h k f p
def St.Xk (h:St M w0 n Γ As a w) (f:List Nat) (m:Bj f=true):St M w0 n Γ (Xk As f) a w:=by
 have c:∀A,A∈Sim.Xk As f->A∈As:=by intro A hA;have⟨i,_,hi⟩:=Yx.1 hA;exact Zo hi
 have hf:∀k,fps (Sim.Xk As f) k->fps As k:=λk ⟨A,hA,o⟩=>⟨A,c A hA,o⟩;exact⟨h.size,h.defers,h.grow,h.m0,λA hA=>A.keep (BC hf) (λ_ _=>rfl) (λ_ _=>rfl) (h.own A (c A hA)),λA hA=>h.fresh A (c A hA),Vm h.apart m,λp hp=>p.2.keep (BC hf) (λ_ _=>rfl) (h.Xp p hp)⟩
def St.rowsM {m:Int} {xss:List (List α)} (R:Rep α) (e:TypeId) (hm:Sim.mk m ([]:List α)=some xss) (h:St M w0 n Γ As a w):St M w0 n Γ (rows R e xss (replicate m.toNat nilV)::As) a w:=by
 unfold Sim.mk at hm;split at hm
 ·obtain rfl:=Zn hm;exact h.rows0 R e m.toNat
 ·cases hm
def St.rowsN (R:Rep α) (e:TypeId) (h:St M w0 n Γ As a w):St M w0 n Γ (rows R e ([]:List (List α)) []::As) a w:=h.rows0 R e 0
def St.Xn {R:Rep α} {e:TypeId} {xs:List α} {s:Nat} (i:Nat) (h:St M w0 n Γ (Sim.own R e xs v::As) a w) (hi:Γ[i]?=some (s,tv v)):St M w0 n ((s,tsl R xs)::Γ) As a w:=h.share i hi
section
variable {T:Ty} {e1:TypeId} {us:List Value}
def zokV:∀F w,(rVal.ty nilV).ok F w (.slice none 0 0):=λ_ _=>⟨rfl,rfl⟩
def M6 {n:Int} {k c:IntKind} (ht:P.underlying t=some (.slice e)) (hz:TOk P e rVal bytes (.slice none 0 0)) (hb:bytes<=2048) (hx:Fct Γ x (tv (.int k n))) (hy:Fct Γ y (tv (.int c n))) (h:mk n ([]:List α)=some xss):
  OpJ P ⟨d,.makeSlice t x y,ty,pos,af,g⟩ Γ [] [] (λv=>[own rVal e (replicate n.toNat nilV) v]) (λv=>tv v):=by
 apply Vf (R:=rVal) ht hz zokV hb hx hy;unfold mk at h ⊢;split at h
 ·rename_i hc;rw[Zc hc]
 ·cases h
def lI {xs:List α} {c:List (List α)} {u:Value} (h:setAt xss i xs=some c) (hl:us.length=xss.length):setAt us i u=some (us.set i.toNat u):=by
 unfold setAt at h ⊢;split at h
 ·rename_i hc;rw[Zc ⟨hc.1,om⟩]
 ·cases h
def gL {xs:List α} {c:List (List α)} {u:Value} (hz:TOk P t rVal bytes z) (hp:Fct Γ x (tv (AX v (i.toNat * rVal.n)))) (hx:Fct Γ y (tv u)) (h:setAt xss i xs=some c):
  OpJ P ⟨d,.store t x y,ty,pos,af,g⟩ Γ [rows R e2 xss us,own R e xs u] [own rVal e1 us v] (λ_=>[own rVal e1 (us.set i.toNat u) v]) (λ_=>tany):=
 .say (A:=rows R e2 xss us) sm (λ_ _ h=>Nc h) λhl=>.say (A:=own R e xs u) sm (λ_ _ h=>EQ h) λhu=>(lE (us:=us) hz hp hx hu (lI h hl)).Xq (λA hA=>by cases hA)
def UU {xs:List α} {u:Value} (ht:P.underlying t=some (.slice e1)) (hz:TOk P e1 rVal bytes z) (hx:Fct Γ x (tv u)):OpJ P ⟨d,.buildSlice t 1 #[(0,x)],ty,pos,af,g⟩ Γ [own R e xs u] [] (λ_=>[]) (λ_=>tsl rVal [u]):=.say (A:=own R e xs u) sm (λ_ _ h=>EQ h) λhu=>(Gd (R:=rVal) (len:=1) (us:=[u]) ht hz (.cons (hx.Xo λ_ _ _ h=>⟨h,hu⟩) (.nil _)) rfl (by show 1 * 1<=16777216;omega)).Xq (λA hA=>by cases hA)
def Uc (hz:TOk P t rVal bytes (.slice none 0 0)):OpJ P ⟨d,.alloc t,ty,pos,af,g⟩ Γ [] [] (λp=>[box (rVal.cs nilV) p]) (λp=>tv p):=Eb (R:=rVal) (a:=nilV) hz zokV
def lJ {q u:Value} (hz:TOk P t rVal bytes z) (hp:Fct Γ x (tv q)):OpJ P ⟨d,.load t x,ty,pos,af,g⟩ Γ [box (rVal.cs u) q] [] (λ_=>[]) (λ_=>tv u):=Jm (Pu (R:=rVal) (u:=u) hz hp rfl) (λ_ _ _ _ h=>h.1)
def DK {f:Operand} {m:FuncId} {xs:List Operand} {T:Value->Ty} (hc:Qj P m) (C:FnOk P m (Ts++Tc) E N T) (hf:Fct Γ f (CZ m Tc)) (ha:Args Γ [] xs Ts):OpJ P ⟨d,.call { callee:=.value f,args:=xs.toArray,argTypes:=ts },ty,pos,af,g⟩ Γ [] E N T:=by
 intro M w a I _ L D _ s;have⟨caps,H,r⟩:=hf.use sc s;have o:=ha.cells (F:=free M w) (F':=free M w) (a:=a) (λ_ h=>h) (λA hA=>by simp at hA) (λp hp hx=>s p hp (by simp[Op.operands,Call.operands,hx]));have c:=o.append r;simp only[Does,RH hc H];apply Calls.mono (C M w _ I L D c);rintro e w' ⟨x,v,s,h⟩;exact⟨v,s,x,h⟩
def cpy (xs ys:List α):List α:=ys.take xs.length++xs.drop ys.length
def Pq (xs ys:List α):(cpy xs ys).length=xs.length:=by simp[cpy];omega
def Vn {xs:List α} {v:Value} (h:(own R e xs v).ok F w):∃us,QW (xs.flatMap R.cs) F w us/\((v=.slice none 0 0/\xs=[])\/∃b cap,v=.slice (some ⟨b,0,none⟩) xs.length cap/\∀j u,us[j]?=some u->w.cell? ⟨b,j,none⟩=some u):=by
 rcases CG h with⟨c,hx⟩ | ⟨b,cap,cur,c,hb,m,o,p,f⟩
 ·subst hx;exact⟨[],.nil,.inl ⟨c,rfl⟩⟩
 ·refine⟨_,f,.inr ⟨b,cap,c,λj u hu=>?_⟩⟩;rw[getElem?_take] at hu;split at hu
  ·simp only[World.cell?,hb];simpa using hu
  ·cases hu
def lK {xs ys:List α} {v:Value} {F':Blk} {D:Option Addr} {c:Nat} {vs:List Value} (ht:P.underlying t=some (.slice e)) (I:ta[0]?=some t) (hz:TOk P e R bytes z) (ho:(own R e xs v).ok F w) (hF:∀k,F k->¬(own R e xs v).fp k) (X:∀k,F k->F' k) (o:QW (ys.flatMap R.cs) F w vs) (hr:ys=[]\/∃b off,D=some ⟨b,off,none⟩/\∀j u,vs[j]?=some u->w.cell? ⟨b,off+j,none⟩=some u):
  ∃w',(Builtin.copy_ ta ty #[v,.slice D ys.length c]).run P w=.ok (.int .i64 (Nat.min ys.length xs.length)) w'/\Step (own R e xs v).fp w w'/\(own R e (cpy xs ys) v).ok F' w'/\w'.heap.size=w.heap.size:=by
 have⟨ti,L,_,hs,_⟩:=hz.info;have Y:vs.length=ys.length * R.n:=by rw[o.1,Aw]
 rcases CG ho with⟨H,hx⟩ | ⟨b,cap,cur,H,hb,h1,h2,h3,h4⟩
 ·subst H;subst hx;refine⟨w,?_,Step.refl _ _,?_,rfl⟩
  ·cases D<;>simp[Builtin.copy_,I,run_underlying ht,Builtin.lenOf,sizeOf,typeInfo,L,Builtin.firstCells,goInt,loadCells,loadCellsFrom]
  ·simp only[cpy,Zm,take_zero,drop_nil,Yg];exact Jn
 ·have a4:xs.length * R.n<=cur.size:=by rw[h3];exact Nat.mul_le_mul_right _ h1
  obtain⟨m,hm⟩:∃m,m=Nat.min ys.length xs.length:=⟨_,rfl⟩;have O:m<=ys.length:=by rw[hm];exact Nat.min_le_left _ _
  have Z:m<=xs.length:=by rw[hm];exact Nat.min_le_right _ _
  have a5:m * R.n<=ys.length * R.n:=Nat.mul_le_mul_right _ O;have a0:m * R.n<=xs.length * R.n:=Nat.mul_le_mul_right _ Z;have f:(vs.take (m * R.n)).length=m * R.n:=by simp;omega
  have S:∀u∈vs.take (m * R.n),u.oneCell'=true:=by
   intro u hu;have⟨j,r⟩:=ZX.1 (mem_of_mem_take hu);have V:j<(ys.flatMap R.cs).length:=by rw[<-o.1];exact (Zf.1 r).1
   have p:=o.2 j _ u (Zd V) r;have⟨q,_,hq⟩:=Ya.1 (Zr V);exact R.one q _ hq F w u p
  have a1:(Builtin.firstCells R.n m (.slice D ys.length c)).run P w=.ok (vs.take (m * R.n)).toArray w:=by
   rcases hr with rfl | ⟨b',off,rfl,s⟩
   ·have:vs=[]:=ZW (by rw[Y];simp);subst this;have a2:m=0:=by simpa using O
    rw[a2];cases D<;>simp[Builtin.firstCells,loadCells,loadCellsFrom]
   ·have:=run_loadCells_list (P:=P) w ⟨b',off,none⟩ (vs.take (m * R.n)) (λj u r=>by
     rw[getElem?_take] at r;split at r
     ·rw[Aj];exact s j u r
     ·cases r)
    rw[f] at this;simpa[Builtin.firstCells] using this
  have W:=run_storeCells_at P b 0 e (vs.take (m * R.n)) 0 cur w hb (by rw[f];omega) S;simp only[Nat.add_zero,Nat.zero_add,take_zero,Yl,f] at W;refine⟨w.setRow b (vs.take (m * R.n)++cur.toList.drop (m * R.n)).toArray,?_,Gs (by rw[H];exact BB.2 rfl),?_,sm⟩
  ·subst H;have hlen:(Builtin.lenOf (.slice D ys.length c)).run P w=.ok ys.length w:=by simp[Builtin.lenOf]
   simp only[Builtin.copy_,I,run_underlying ht,getElem?_toArray,getElem?_cons_zero,getElem?_cons_succ,Sem.run_bind,hlen,Zl,sizeOf,typeInfo,run_program,L,Sem.run_pure,<-hm,hs,a1,W,goInt]
  ·have C:(cpy xs ys).length=xs.length:=Pq xs ys;have a3:v=.slice (some ⟨b,0,none⟩) (cpy xs ys).length cap:=by rw[C];exact H
   rw[a3];apply FH (setRow_heap w b cur _ e _ hb) (by rw[C];exact h1) h2 (by simp only[size_toArray,Ze,f,Yi,Array.length_toList];omega);rw[C];have e1:((vs.take (m * R.n)++cur.toList.drop (m * R.n)).toArray.toList).take (xs.length * R.n)=vs.take (m * R.n)++(cur.toList.take (xs.length * R.n)).drop (m * R.n):=by simp only[];rw[take_append,f,drop_take];congr 1;rw[Zw (by rw[f];exact a0)]
   rw[e1];have e2:(cpy xs ys).flatMap R.cs=(ys.flatMap R.cs).take (m * R.n)++(xs.flatMap R.cs).drop (m * R.n):=by
    unfold cpy;have e3:ys.take xs.length=ys.take m:=by
     rw[hm]
     change _=ys.take (min ys.length xs.length)
     rcases Nat.le_total ys.length xs.length with h | h
     ·rw[Nat.min_eq_left h,Zw h,take_length]
     ·rw[Nat.min_eq_right h]
    have e4:xs.drop ys.length=xs.drop m:=by
     rw[hm]
     change _=xs.drop (min ys.length xs.length)
     rcases Nat.le_total ys.length xs.length with h | h
     ·rw[Nat.min_eq_left h]
     ·rw[Nat.min_eq_right h,drop_of_length_le h,drop_length]
    rw[e3,e4,ZM];have f1:=Row.Xs R ys 0 m om;simp only[drop_zero,Nat.zero_mul] at f1;have f2:=Row.Xs R xs m (xs.length - m) om;rw[Zw (l:=xs.drop m) sm] at f2;have f3:((xs.flatMap R.cs).drop (m * R.n)).take ((xs.length - m) * R.n)=(xs.flatMap R.cs).drop (m * R.n):=Zw (by rw[Yi,Aw,Nat.sub_mul];exact Zq _);rw[f1,f2,f3]
   rw[e2];have c1:QW ((ys.flatMap R.cs).take (m * R.n)) F w (vs.take (m * R.n)):=⟨by simp[o.1],λj T u p hu=>by
    rw[getElem?_take] at p hu;split at p
    ·rw[Zc (by assumption)] at hu;exact o.2 j T u p hu
    ·cases p⟩
   have c2:QW ((xs.flatMap R.cs).drop (m * R.n)) F w ((cur.toList.take (xs.length * R.n)).drop (m * R.n)):=⟨by rw[Yi,Yi,h4.1],λj T u p hu=>by rw[getElem?_drop] at p hu;exact h4.2 _ T u p hu⟩;exact (c1.append c2).Xr X (λk hk=>setRow_other w b k _ (λe=>hF k hk (by rw[H,e];exact BB.2 rfl)))
def Vo {xs ys:List α} {v:Value} (ht:P.underlying t=some (.slice e)) (C:ta[0]?=some t) (hz:TOk P e R bytes z) (hx:Fct Γ x (tv v)) (o:∀(M:Blk) (w:World) (A:Act),DL M U w->D4 Γ (⟨d,.call { callee:=.builtin .copy,args:=#[x,y],argTypes:=ta },ty,pos,af,g⟩:Oper).op.operands (free M w) w A->∃D c vs,A.eval y=.slice D ys.length c/\QW (ys.flatMap R.cs) (free M w) w vs/\(ys=[]\/∃b off,D=some ⟨b,off,none⟩/\∀j u,vs[j]?=some u->w.cell? ⟨b,off+j,none⟩=some u)):
  OpJ P ⟨d,.call { callee:=.builtin .copy,args:=#[x,y],argTypes:=ta },ty,pos,af,g⟩ Γ U [own R e xs v] (λ_=>[own R e (cpy xs ys) v]) (λ_=>tv (.int .i64 (Nat.min ys.length xs.length))):=by
 intro M w A V hU O _ _ S;have⟨W,p⟩:=O _ (Zi.2 rfl);have r:=Cr O;have X:=hx.val sc S;have⟨D,c,vs,Y,H,Z⟩:=o M w A hU S;have⟨w',s,h,I,L⟩:=lK (ty:=ty) (c:=c) (F':=free M w) ht C hz W (λk f hf=>f.2 (p k hf)) (λk f=>f) H Z;have m:(execOp A.eval (⟨d,.call { callee:=.builtin .copy,args:=#[x,y],argTypes:=ta },ty,pos,af,g⟩:Oper)).run P w=.ok (.value (.int .i64 (Nat.min ys.length xs.length))) w':=by simp only[execOp,resolve,invoke,builtin,Sem.run_bind,Sem.run_pure,Zl,map_toArray,Ys,Yy,X,Y,s]
 simp only[Does,m];refine⟨undef,h.mono (λk f=>AU.2 f),BX (λk f=>⟨.inl (AU.2 f),by rw[L];exact V k (p k f)⟩) ?_,rfl⟩;refine Atom.keep _ (λk f=>?_) (λ_ _=>rfl) (λ_ _=>rfl) I;refine Cp om r (λB hB j hj=>?_) f;obtain rfl:=Zi.1 hB;exact .inl (AU.2 hj)
def fK {xs ys:List α} {v:Value} (ht:P.underlying t=some (.slice e)) (h:ta[0]?=some t) (hz:TOk P e R bytes z) (hx:Fct Γ x (tv v)) (hy:Fct Γ y (tsl R ys)):
  OpJ P ⟨d,.call { callee:=.builtin .copy,args:=#[x,y],argTypes:=ta },ty,pos,af,g⟩ Γ [] [own R e xs v] (λ_=>[own R e (cpy xs ys) v]) (λ_=>tv (.int .i64 (Nat.min ys.length xs.length))):=
 Vo ht h hz hx λM w A _ p=>by
  have⟨s,cap,m,_,r⟩:=hy.use sc p;by_cases o:ys=[]
  ·subst o;exact⟨_,_,[],m,.nil,.inl rfl⟩
  ·have⟨b,off,ha,_,f⟩:=r o;have⟨vs,hc,c⟩:=Jj _ _ f;exact⟨_,_,vs,m,hc,.inr ⟨b,off,ha,c⟩⟩
def Uj {xs ys:List α} {v v2:Value} {o:TypeId} (ht:P.underlying t=some (.slice e)) (f:ta[0]?=some t) (hz:TOk P e R bytes z) (hx:Fct Γ x (tv v)) (hy:Fct Γ y (tv v2)):
  OpJ P ⟨d,.call { callee:=.builtin .copy,args:=#[x,y],argTypes:=ta },ty,pos,af,g⟩ Γ [own R o ys v2] [own R e xs v] (λ_=>[own R e (cpy xs ys) v]) (λ_=>tv (.int .i64 (Nat.min ys.length xs.length))):=
 Vo ht f hz hx λM w A hU p=>by
  have m:=hy.val sc p;have⟨vs,hc,r⟩:=Vn (hU _ (Zi.2 rfl)).1;rcases r with⟨h,rfl⟩ | ⟨b,cap,h,c⟩
  ·exact⟨none,0,vs,m.trans h,hc,.inl rfl⟩
  ·exact⟨_,cap,vs,m.trans h,hc,.inr ⟨b,0,rfl,λj u hu=>by rw[Nat.zero_add];exact c j u hu⟩⟩
def gJ {xs ys:List α} {v:Value} (ht:P.underlying t=some (.slice e)) (c:ta[0]?=some t) (hz:TOk P e R bytes z) (hx:Fct Γ x (tv v)) (hy:Fct Γ y (tv (usAt us i))) (h:idx xss i=some ys):
  OpJ P ⟨d,.call { callee:=.builtin .copy,args:=#[x,y],argTypes:=ta },ty,pos,af,g⟩ Γ [rows R e2 xss us] [own R e xs v] (λ_=>[own R e (cpy xs ys) v]) (λ_=>tv (.int .i64 (Nat.min ys.length xs.length))):=
 .Xt (Jk h) Jl (Uj ht c hz hx hy)
end
def iand (k:IntKind) (a b:Int):Int:=k.wrap ((BitVec.ofInt k.bits a&&& BitVec.ofInt k.bits b).toNat:Int)
def ishr (k:IntKind) (a b:Int):Int:=a.fdiv (2 ^ (min b.toNat k.bits))
def cutV (m:Nat) (v:Value) (i j:Int):Value:=match v with
 | .slice c _ cap=>.slice (if cap=i.toNat then c else c.map (·.add (i.toNat * m))) (j.toNat - i.toNat) (cap - i.toNat)
 | x=>x
def Gu (h:sub xs i j=some ys):0<=i/\i<=j/\j.toNat<=xs.length/\ys=(xs.drop i.toNat).take (j.toNat - i.toNat)/\ys.length=j.toNat - i.toNat:=by
 unfold sub at h;split at h
 ·rename_i hc;obtain rfl:=Zn h;exact⟨hc.1,hc.2.1,om,rfl,so⟩
 ·cases h
section
variable {T:Ty} {k k2:IntKind} {a b:Int}
def Ph (hx:Fct Γ x (tv (.int k a))) (hy:Fct Γ y (tv (.int k b))):OpJ P ⟨d,.binOp .and t x y t2,ty,pos,af,g⟩ Γ [] [] (λ_=>[]) (λ_=>tv (.int k (iand k a b))):=Cs hx hy λw=>by simp[eqGuard,binOp,Op.intBits,iand]
def JJ (hx:Fct Γ x (tv (.int k a))) (hy:Fct Γ y (tv (.int k2 b))) (h:0<=b):OpJ P ⟨d,.binOp .shr t x y t2,ty,pos,af,g⟩ Γ [] [] (λ_=>[]) (λ_=>tv (.int k (ishr k a b))):=Cs hx hy λw=>by simp[eqGuard,binOp,Op.shift,ishr,Int.not_lt.2 h]
def lL {xs:List α} {v:Value} (h:(own R e xs v).ok F w):∃f cap,v=.slice f xs.length cap/\xs.length<=cap:=by
 rcases CG h with⟨c,m⟩ | ⟨b,cap,cur,c,_,o,_⟩
 ·subst m;exact⟨none,0,c,Zq _⟩
 ·exact⟨_,cap,c,o⟩
def UM {xs ys:List α} (ht:P.underlying t=some (.slice e)) (hz:TOk P e R bytes z) (hx:Fct Γ x (tv v)) (c:Bd Γ lo 0 i) (f:Bd Γ hi xs.length j) (h:sub xs i j=some ys):
  OpJ P ⟨d,.slice t x lo hi none,ty,pos,af,g⟩ Γ [own R e xs v] [] (λ_=>[]) (λ_=>tv (cutV R.n v i j)):=
 BY λM w A hU m=>by
  have⟨I,cap,C,D⟩:=lL (hU _ (Zi.2 rfl));have o:=hx.val oq m;have⟨ti,p,_,H,_⟩:=hz.info;have⟨r,L,O,_,_⟩:=Gu h;have hb:(Instr.sliceBounds true xs.length cap (lo.map A.eval) (hi.map A.eval) none).run P w=.ok (i.toNat,j.toNat,cap) w:=by
   rcases c.use (by rintro y rfl;simp[Op.operands]) m with⟨e1,e2⟩ | ⟨s,e1⟩<;>rcases f.use (by rintro y rfl;simp[Op.operands]) m with⟨f1,f2⟩ | ⟨k2,f1⟩
   ·rw[e1,f1,e2,f2];simp[Instr.sliceBounds]
   ·rw[e1,f1,e2];simp only[Instr.sliceBounds,Sem.run_bind,Sem.run_pure,Zl,run_sliceBound w k2 j cap _ om om];rfl
   ·rw[e1,f1,f2];simp only[Instr.sliceBounds,Sem.run_bind,Sem.run_pure,Zl,run_sliceBound w s i xs.length _ r om];simp
   ·rw[e1,f1];simp only[Instr.sliceBounds,Sem.run_bind,Sem.run_pure,Zl,run_sliceBound w k2 j cap _ om om,run_sliceBound w s i j.toNat _ r om]
  refine⟨cutV R.n v i j,?_,rfl⟩;subst C;simp[execOp,Instr.sliceAt,run_underlying ht,Instr.slice,o,hb,sizeOf,typeInfo,p,H,cutV]
def lM {xs ys:List α} {b n cap:Nat} (h:(own R e xs (.slice (some ⟨b,0,none⟩) n cap)).ok F w) (C:sub xs i j=some ys):Row (ys.flatMap R.cs) F w b (i.toNat * R.n):=by
 have⟨D,H,I,hy,hl⟩:=Gu C;rcases CG h with⟨f,_⟩ | ⟨L,o,cur,f,hb,O,S,V,p⟩
 ·simp at f
 ·simp only[Value.slice.injEq,ZQ,Addr.mk.injEq,and_true] at f;obtain⟨rfl,rfl,rfl⟩:=f;have c:Row (xs.flatMap R.cs) F w b 0:=λq T r=>by
   have s:q<(cur.toList.take (xs.length * R.n)).length:=by rw[p.1];exact (Zf.1 r).1
   refine⟨(cur.toList.take (xs.length * R.n))[q],?_,p.2 q T _ r (Zd s)⟩;have m:q<cur.size:=by simp at s;omega
   simp[World.cell?,hb,m]
  rw[hy,Row.Xs R xs _ _ om];have:=(c.part (i.toNat * R.n)).head (Us:=((xs.flatMap R.cs).drop (i.toNat * R.n)).take ((j.toNat - i.toNat) * R.n)) (by rw[ZY,take_eq_take_iff];simp);simpa using this
def Vp {m:Nat} {α:Type} {ys:List α} (h:sub ([]:List α) i j=some ys):cutV m (.slice none 0 0) i j=.slice none 0 0/\ys=[]:=by
 have⟨o,p,c,hy,hl⟩:=Gu h;have f:j.toNat=0:=by simpa using c
 have hi:i.toNat=0:=by omega
 refine⟨by simp[cutV,hi,f],by rw[hy];simp⟩
def Vr {m b n cap:Nat} {xs ys:List α} (c:sub xs i j=some ys) (f:xs.length<=cap) (hy:ys≠[]):cutV m (.slice (some ⟨b,0,none⟩) n cap) i j=.slice (some ⟨b,i.toNat * m,none⟩) ys.length (cap - i.toNat):=by have⟨h,o,p,_,hl⟩:=Gu c;have:0<ys.length:=length_pos_iff.2 hy;simp only[cutV];rw[Zb om,hl];simp[Aj]
def fL {xs ds f:List α} {lo hi o I:Int} (ht:P.underlying t=some (.slice e)) (Y:ta[0]?=some t) (hz:TOk P e R bytes z) (hx:Fct Γ x (tv (cutV R.n v lo hi))) (hy:Fct Γ y (tv (cutV R.n v o I))) (hs:sub xs lo hi=some ds) (L:sub xs o I=some f):
  OpJ P ⟨d,.call { callee:=.builtin .copy,args:=#[x,y],argTypes:=ta },ty,pos,af,g⟩ Γ [] [own R e xs v] (λ_=>[own R e (xs.take lo.toNat++cpy ds f++xs.drop hi.toNat) v]) (λ_=>tv (.int .i64 (Nat.min f.length ds.length))):=by
 intro M w A hM _ hE _ _ he;have⟨ho,a6⟩:=hE _ (Zi.2 rfl);have D:=Cr hE;have h1:=hx.val sc he;have h2:=hy.val sc he;have⟨ti,Z,_,b3,_⟩:=hz.info;have a0:∀r w',(Builtin.copy_ ta ty #[cutV R.n v lo hi,cutV R.n v o I]).run P w=.ok r w'->(execOp A.eval (⟨d,.call { callee:=.builtin .copy,args:=#[x,y],argTypes:=ta },ty,pos,af,g⟩:Oper)).run P w=.ok (.value r) w':=by intro r w' hr;simp only[execOp,resolve,invoke,builtin,Sem.run_bind,Sem.run_pure,Zl,map_toArray,Ys,Yy,h1,h2,hr]
 rcases CG ho with⟨hv,b4⟩ | ⟨b,cap,cur,hv,a3,O,b5,b6,b7⟩
 ·subst hv;subst b4;obtain⟨a1,rfl⟩:=Vp (m:=R.n) hs;obtain⟨a2,rfl⟩:=Vp (m:=R.n) L;have hr:=a0 (.int .i64 0) w (by rw[a1,a2];simp[Builtin.copy_,Y,run_underlying ht,Builtin.lenOf,sizeOf,typeInfo,Z,Builtin.firstCells,goInt]);simp only[Does,hr];refine⟨undef,Step.refl _ _,BX (λk s=>⟨.inl (AU.2 s),hM k (a6 k s)⟩) ?_,rfl⟩;simp only[take_nil,cpy,Zm,drop_nil,Yg,take_zero];exact Jn
 ·have⟨c0,c1,c2,hd,b8⟩:=Gu hs;have⟨g0,g1,g2,_,b9⟩:=Gu L;subst hv;obtain⟨ad,c,c3⟩:∃ad c,cutV R.n (.slice (some ⟨b,0,none⟩) xs.length cap) lo hi=.slice ad ds.length c:=⟨_,_,by simp only[cutV,b8];rfl⟩;obtain⟨c4,c',c5⟩:∃ad c,cutV R.n (.slice (some ⟨b,0,none⟩) xs.length cap) o I=.slice ad f.length c:=⟨_,_,by simp only[cutV,b9];rfl⟩;obtain⟨m,hm⟩:∃m,m=Nat.min f.length ds.length:=⟨_,rfl⟩;have S:m<=f.length:=by rw[hm];exact Nat.min_le_left _ _
  have V:m<=ds.length:=by rw[hm];exact Nat.min_le_right _ _
  have e9:lo.toNat+ds.length=hi.toNat:=by omega
  by_cases h0:m=0
  ·have c6:cpy ds f=ds:=by
    unfold cpy;have:ds=[]\/f=[]:=by
     have h5:min f.length ds.length=0:=by rw[h0] at hm;exact hm.symm
     rcases Nat.le_total f.length ds.length with h | h
     ·right;exact ZW om
     ·left;exact ZW om
    rcases this with h | h
    ·rw[h];simp
    ·rw[h];simp
   have c7:xs.take lo.toNat++cpy ds f++xs.drop hi.toNat=xs:=by
    rw[c6,hd,ZJ];have:hi.toNat=lo.toNat+(hi.toNat - lo.toNat):=by omega
    conv=>lhs;rhs;rhs;rw[this,<-drop_drop]
    rw[Yw,Yw]
   have hr:=a0 (.int .i64 0) w (by
    rw[c3,c5];have e0:Nat.min f.length ds.length=0:=by rw[<-hm];exact h0
    cases ad<;>cases c4<;>simp[Builtin.copy_,Y,run_underlying ht,Builtin.lenOf,sizeOf,typeInfo,Z,Builtin.firstCells,goInt,e0,loadCells,loadCellsFrom,storeCells])
   simp only[Does,hr];refine⟨undef,Step.refl _ _,BX (λk s=>⟨.inl (AU.2 s),hM k (a6 k s)⟩) ?_,by rw[<-hm,h0];rfl⟩;rw[c7];refine Atom.keep _ (λk s=>?_) (λ_ _=>rfl) (λ_ _=>rfl) ho;refine Cp (Zq _) D (λB hB j p=>?_) s;obtain rfl:=Zi.1 hB;exact .inl (AU.2 p)
  ·have a7:ds≠[]:=λh=>by rw[h] at V;simp at V;exact h0 V
   have a8:f≠[]:=λh=>by rw[h] at S;simp at S;exact h0 S
   have c8:=Vr (m:=R.n) (b:=b) (n:=xs.length) hs O a7;have c9:=Vr (m:=R.n) (b:=b) (n:=xs.length) L O a8;have⟨vs,H,a4⟩:=Jj _ _ (lM ho L);have g4:vs.length=f.length * R.n:=by rw[H.1,Aw]
   have a9:m * R.n<=f.length * R.n:=Nat.mul_le_mul_right _ S;have g5:m * R.n<=ds.length * R.n:=Nat.mul_le_mul_right _ V;have W:(vs.take (m * R.n)).length=m * R.n:=by simp;omega
   have X:QW ((f.flatMap R.cs).take (m * R.n)) (free M w) w (vs.take (m * R.n)):=⟨by simp[H.1],λj T u hT hu=>by
    rw[getElem?_take] at hT hu;split at hT
    ·rw[Zc (by assumption)] at hu;exact H.2 j T u hT hu
    ·cases hT⟩
   have b0:∀u∈vs.take (m * R.n),u.oneCell'=true:=by
    intro u hu;have⟨j,p⟩:=ZX.1 (mem_of_mem_take hu);have b1:j<(f.flatMap R.cs).length:=by rw[<-H.1];exact (Zf.1 p).1
    have hT:=H.2 j _ u (Zd b1) p;have⟨q,_,hq⟩:=Ya.1 (Zr b1);exact R.one q _ hq _ w u hT
   have e5:(Builtin.firstCells R.n m (.slice (some ⟨b,o.toNat * R.n,none⟩) f.length (cap - o.toNat))).run P w=.ok (vs.take (m * R.n)).toArray w:=by
    have:=run_loadCells_list (P:=P) w ⟨b,o.toNat * R.n,none⟩ (vs.take (m * R.n)) (λj u p=>by
     rw[getElem?_take] at p;split at p
     ·rw[Aj];exact a4 j u p
     ·cases p)
    rw[W] at this;simpa[Builtin.firstCells] using this
   have e6:(lo.toNat+ds.length) * R.n<=xs.length * R.n:=Nat.mul_le_mul_right _ om;rw[Nat.add_mul] at e6;have e7:xs.length * R.n<=cap * R.n:=Nat.mul_le_mul_right _ O;have b2:=run_storeCells_at P b (lo.toNat * R.n) e (vs.take (m * R.n)) 0 cur w a3 (by rw[W];omega) b0;simp only[Nat.add_zero] at b2;have hr:=a0 (.int .i64 (Nat.min f.length ds.length)) (w.setRow b (splice cur.toList (lo.toNat * R.n) (vs.take (m * R.n))).toArray) (by
    rw[c8,c9];have hlen:(Builtin.lenOf (.slice (some ⟨b,o.toNat * R.n,none⟩) f.length (cap - o.toNat))).run P w=.ok f.length w:=by simp[Builtin.lenOf]
    simp only[Builtin.copy_,Y,run_underlying ht,getElem?_toArray,getElem?_cons_zero,getElem?_cons_succ,Sem.run_bind,hlen,Zl,sizeOf,typeInfo,run_program,Z,Sem.run_pure,<-hm,b3,e5,b2,goInt,splice])
   simp only[Does,hr];have C:∀k,AR [own R e xs (.slice (some ⟨b,0,none⟩) xs.length cap)] k↔k=b:=λk=>by rw[AU,BB]
   refine⟨undef,Gs ((C b).2 rfl),BX (λk s=>?_) ?_,rfl⟩
   ·rw[BB] at s;rw[s];exact⟨.inl ((C b).2 rfl),by simpa using (Array.getElem?_eq_some_iff.1 a3).1⟩
   ·have a5:(xs.take lo.toNat++cpy ds f++xs.drop hi.toNat).length=xs.length:=by
     simp only[Ze,ZY,Pq,Yi];omega
    have key:∀F',(∀k,free M w k->F' k)->(own R e (xs.take lo.toNat++cpy ds f++xs.drop hi.toNat) (.slice (some ⟨b,0,none⟩) (xs.take lo.toNat++cpy ds f++xs.drop hi.toNat).length cap)).ok F' (w.setRow b (splice cur.toList (lo.toNat * R.n) (vs.take (m * R.n))).toArray):=?key
    ·have:=key _ (λk s=>Cp (w':=w.setRow b (splice cur.toList (lo.toNat * R.n) (vs.take (m * R.n))).toArray) (N:=[own R e (xs.take lo.toNat++cpy ds f++xs.drop hi.toNat) (.slice (some ⟨b,0,none⟩) xs.length cap)]) sm D (λB hB j p=>by
      obtain rfl:=Zi.1 hB;rw[BB] at p;exact .inl ((C j).2 p)) s)
     rw[a5] at this;exact this
    intro F' e8;apply FH (cur:=(splice cur.toList (lo.toNat * R.n) (vs.take (m * R.n))).toArray) (setRow_heap w b cur _ e _ a3) (by rw[a5];exact O) b5 (by rw[size_toArray,Gr _ _ _ (by rw[W];simp;omega)];simpa using b6);rw[a5];have e0:∀ns:List Value,lo.toNat * R.n+ns.length<=xs.length * R.n->(splice cur.toList (lo.toNat * R.n) ns).take (xs.length * R.n)=splice (cur.toList.take (xs.length * R.n)) (lo.toNat * R.n) ns:=by
     intro ns g6;apply ext_getElem?;intro j;rw[getElem?_take,DM _ _ _ _ so,DM _ _ _ _ so,getElem?_take];by_cases p:j<xs.length * R.n
     ·rw[Zc p,Zc p]
     ·rw[Zb p,Zb p,Zb om]
    have e1:=e0 (vs.take (m * R.n)) (by rw[W];omega);simp only;rw[e1];have e2:(xs.take lo.toNat++cpy ds f++xs.drop hi.toNat).flatMap R.cs=splice (xs.flatMap R.cs) (lo.toNat * R.n) ((f.flatMap R.cs).take (m * R.n)):=by
     have f0:cpy ds f=f.take m++ds.drop m:=by
      unfold cpy;have e3:f.take ds.length=f.take m:=by
       rw[hm]
       change _=f.take (min f.length ds.length)
       rcases Nat.le_total f.length ds.length with h | h
       ·rw[Nat.min_eq_left h,Zw h,take_length]
       ·rw[Nat.min_eq_right h]
      have e4:ds.drop f.length=ds.drop m:=by
       rw[hm]
       change _=ds.drop (min f.length ds.length)
       rcases Nat.le_total f.length ds.length with h | h
       ·rw[Nat.min_eq_left h]
       ·rw[Nat.min_eq_right h,drop_of_length_le h,drop_length]
      rw[e3,e4]
     have f1:xs.take lo.toNat++cpy ds f++xs.drop hi.toNat=xs.take lo.toNat++f.take m++xs.drop (lo.toNat+m):=by
      rw[f0,hd,drop_take,drop_drop];simp only[ZJ];congr 2;have:hi.toNat=lo.toNat+m+(hi.toNat - lo.toNat - m):=by omega
      conv=>lhs;rhs;rw[this,<-drop_drop]
      rw[Yw]
     have t1:=Row.Xs R xs 0 lo.toNat om;simp only[drop_zero,Nat.zero_mul] at t1;have t2:=Row.Xs R f 0 m om;simp only[drop_zero,Nat.zero_mul] at t2;have t3:=Row.Xs R xs (lo.toNat+m) (xs.length - (lo.toNat+m)) om;rw[Zw (l:=xs.drop (lo.toNat+m)) sm] at t3;have t4:((xs.flatMap R.cs).drop ((lo.toNat+m) * R.n)).take ((xs.length - (lo.toNat+m)) * R.n)=(xs.flatMap R.cs).drop ((lo.toNat+m) * R.n):=Zw (by rw[Yi,Aw,Nat.sub_mul];exact Zq _);rw[f1,ZM,ZM,t1,t2,t3,t4];unfold splice;rw[ZY,Aw,Nat.min_eq_left a9,Nat.add_mul]
    rw[e2];exact (b7.splice X (by rw[ZY,Aw,Aw,Nat.min_eq_left a9];omega)).Xr e8 (λk s=>setRow_other w b k _ (λe=>s.2 (D k ((C k).2 e))))
end
def tabV (x:Value):Value:=match x with | .tuple a=>a.getD 0 undef | _=>undef
def tabU (x:Value):List Value:=match x with | .tuple a=>(match a.getD 1 undef with | .agg us=>us.toList | _=>[]) | _=>[]
def tabX (v:Value) (us:List Value):Value:=.tuple #[v,.agg us.toArray]
def FnOk.roT {f:FuncId} {e1 e2:TypeId} {T':Ty} (h:FnOk P f Ts [] (λx=>[own rVal e1 (tabU x) (tabV x),rows R e2 xss (tabU x)]) T) (H:∀x F w v,(tsl (rSl R) xss).ok F w (tabV x)->(T x).ok F w v->T'.ok F w v):FnOk P f Ts [] (λ_=>[]) (λ_=>T'):=by
 intro M w vs C I o hc;apply Calls.mono (h M w vs C I o hc);rintro W w' ⟨x,v,L,O,p,r⟩;have c:∀A,A∈([own rVal e1 (tabU x) (tabV x),rows R e2 xss (tabU x)]:List Atom)->∀k,A.fp k->free M w' k:=by
  intro A hA k S;have:=p.place A hA k S;refine⟨this.2,λhm=>?_⟩;have D:=C k hm;rcases this.1 with h | h
  ·rw[Gp] at h;exact h
  ·omega
 have m:∀k,free (next M [] [own rVal e1 (tabU x) (tabV x),rows R e2 xss (tabU x)]) w' k->free M w' k:=by rintro k ⟨V,D⟩;exact⟨V,λhm=>D (.inl ⟨hm,λh=>(by rw[Gp] at h;exact h)⟩)⟩
 have s:(tsl (rSl R) xss).ok (free M w') w' (tabV x):=lH (R:=R) (e1:=e1) (e2:=e2) m (p.ok _ (.head _)) (p.ok _ (.tail _ (.head _))) (c _ (.head _)) (c _ (.tail _ (.head _)));refine⟨undef,v,L,O,Fz,?_⟩;simp only[Ji];exact H x _ _ _ s ((T x).keep m (λ_ _=>rfl) r)
def gN:∀x F w v,(tsl (rSl R) xss).ok F w (tabV x)->(ttup (tv (tabV x)::Ts)).ok F w v->(ttup (tsl (rSl R) xss::Ts)).ok F w v:=λx F w v h ⟨us,f,hc⟩=>by obtain⟨u,vs,rfl,hu,c⟩:=hc.inv;have:u=tabV x:=hu;subst this;exact⟨_,f,.cons h c⟩
def lN {a:Act} {x y:Code} (h:y.wp P Q a w):(Code.cond (.const (.bool false)) x y).wp P Q a w:=wp_cond_false rfl h
def Fct.fnE {f:FuncId}:Fct Γ (.func f) (CZ f []):=λF w a h=>⟨[],Fct.fn F w a h⟩
def tsn (R:Rep α) (xs:List α):Ty:=tand (tsl R xs) ⟨λ_ _ v=>xs=[]->v=.slice none 0 0,λ_ _ h=>h⟩
def ne (xs:List α):Option Unit:=match xs with | []=>none | _::_=>some ()
section
variable {T:Ty}
def Fct.nilsn:Fct Γ (.const (.slice none 0 0)) (tsn R ([]:List α)):=λF w a h0=>⟨Fct.nilsl F w a h0,λ_=>rfl⟩
def Vs (h:(tsn R xs).ok F w v):∃f n c,v=.slice f n c/\f.isNone=xs.isEmpty:=by
 have⟨⟨f,cap,m,_,o⟩,p⟩:=h;refine⟨f,xs.length,cap,m,?_⟩
 cases xs with
 | nil=>have:=p rfl;rw[m] at this;simp only[Value.slice.injEq] at this;rw[this.1];rfl
 | cons u us=>have⟨b,off,ha,_⟩:=o sm;rw[ha];rfl
def lO (ht:P.underlying t=some (.slice e)) (hx:Fct Γ x (tsn R xs)):OpJ P ⟨d,.binOp .eql t x (.const (.slice none 0 0)) t2,ty,pos,af,g⟩ Γ [] [] (λ_=>[]) (λ_=>tv (.bool xs.isEmpty)):=AZ λF w a f=>by have⟨h,n,c,m,o⟩:=Vs (hx.use oq f);refine⟨.bool h.isNone,?_,by rw[o];rfl⟩;simp[execOp,m,H7,eqGuard,binOp,RL ht]
def lP (ht:P.underlying t=some (.slice e)) (hx:Fct Γ x (tsn R xs)):OpJ P ⟨d,.binOp .neq t x (.const (.slice none 0 0)) t2,ty,pos,af,g⟩ Γ [] [] (λ_=>[]) (λ_=>tv (.bool !xs.isEmpty)):=AZ λF w a f=>by have⟨h,n,c,m,o⟩:=Vs (hx.use oq f);refine⟨.bool !h.isNone,?_,by rw[o];rfl⟩;simp[execOp,m,H7,eqGuard,binOp,RL ht]
end
abbrev Str:=List UInt8
def sB (l:Str):ByteArray:=⟨l.toArray⟩
def lR (b:ByteArray):b.size=b.data.toList.length:=rfl
def D5 (l:Str):(sB l).size=l.length:=by simp[sB,ByteArray.size]
def lS (b:ByteArray):∀(n i:Nat) (r:List UInt8),b.size - i=n->i<=b.size->ByteArray.toList.loop b i r=r.reverse++b.data.toList.drop i:=by
 intro n
 induction n with
 | zero=>
  intro i r h hi;unfold ByteArray.toList.loop;have:¬i<b.size:=by omega
  rw[Zb this];have m:b.data.toList.length<=i:=by rw[<-lR];omega
  rw[drop_eq_nil_of_le m,Yg]
 | succ n o=>
  intro i r h hi;unfold ByteArray.toList.loop;have c:i<b.size:=by omega
  have f:i<b.data.toList.length:=c;rw[Zc c,o (i+1) _ om om,Yq f];have:b.get! i=b.data.toList[i]:=by show b.data[i]! =_;rw[getElem!_pos b.data i c];rfl
  rw[this];simp
def Vt (l:Str):(sB l).toList=l:=by unfold ByteArray.toList;rw[lS (sB l) _ 0 [] rfl (Nat.zero_le _)];rfl
def lT (a b:Str):sB a++sB b=sB (a++b):=by apply ByteArray.ext;simp[sB]
def RO (l:Str) (i j:Nat):(sB l).extract i j=sB ((l.drop i).take (j - i)):=by apply ByteArray.ext;simp[sB,extract_toArray]
def sB_get (l:Str) (i:Nat):(sB l)[i]?=l[i]?:=by
 by_cases h:i<l.length
 ·have c:i<(sB l).size:=by rw[D5];exact h
  rw[getElem?_pos (sB l) i c,getElem?_pos l i h];rfl
 ·have c:¬i<(sB l).size:=by rw[D5];exact h
  rw[getElem?_neg (sB l) i c,getElem?_neg l i h]
def sB_inj {a b:Str}:sB a=sB b↔a=b:=by
 constructor
 ·intro h;have:(sB a).data.toList=(sB b).data.toList:=by rw[h]
  exact this
 ·rintro rfl;rfl
@[reducible] def rS : Rep Str := ⟨λx => [tv (.string (sB x))],1,false,λ_ => rfl,λx T h F w v c => by simp at h; subst h; have : v = _ := c; subst this; rfl,λ_ => rfl⟩
def cat (n:Nat):Option Unit:=if n<=9223372036854775807 then some () else none
section
variable {T:Ty} {a b:Str}
def lU (hx:Fct Γ x (tv (.string (sB a)))) (hy:Fct Γ y (tv (.string (sB b)))):OpJ P ⟨d,.binOp .eql t x y t2,ty,pos,af,g⟩ Γ [] [] (λ_=>[]) (λ_=>tv (.bool (a==b))):=Cs hx hy λw=>by simp[eqGuard,binOp,Op.stringOp,Vt]
def lV (hx:Fct Γ x (tv (.string (sB a)))) (hy:Fct Γ y (tv (.string (sB b)))):OpJ P ⟨d,.binOp .neq t x y t2,ty,pos,af,g⟩ Γ [] [] (λ_=>[]) (λ_=>tv (.bool (a !=b))):=Cs hx hy λw=>by simp[eqGuard,binOp,Op.stringOp,Vt,bne]
def Pb (hx:Fct Γ x (tv (.string (sB a)))) (hy:Fct Γ y (tv (.string (sB b)))) (h:cat (a.length+b.length)=some ()):OpJ P ⟨d,.binOp .add t x y t2,ty,pos,af,g⟩ Γ [] [] (λ_=>[]) (λ_=>tv (.string (sB (a++b)))):=
 Cs hx hy λw=>by
  have hl:¬(((sB a).size+(sB b).size:Nat):Int)>i64.max:=by
   unfold cat at h;split at h
   ·rename_i c;rw[D5,D5];simp[IntKind.max,IntKind.bits,IntKind.signed];omega
   ·cases h
  simp only[eqGuard,binOp,Op.stringOp];rw[Zb hl,lT];simp
def op_lenS' (ht:P.underlying t=some .string) (hx:Fct Γ x (tv (.string (sB a)))):OpJ P ⟨d,.call { callee:=.builtin .len,args:=#[x],argTypes:=#[t] },ty,pos,af,g⟩ Γ [] [] (λ_=>[]) (λ_=>tv (.int .i64 (a.length:Int))):=by
 have:=kL (P:=P) (Γ:=Γ) (d:=d) (ty:=ty) (pos:=pos) (af:=af) (g:=g) ht hx
 rwa [D5] at this
def lW {k:IntKind} {u:UInt8} (ht:P.underlying t=some .string) (hx:Fct Γ x (tv (.string (sB a)))) (hi:Fct Γ y (tv (.int k i))) (h:idx a i=some u):
  OpJ P ⟨d,.index t x y,ty,pos,af,g⟩ Γ [] [] (λ_=>[]) (λ_=>tv (.int .u8 (u.toNat:Int))):=
 AZ λF w A c=>by
  have f:=hx.val oq c;have m:=hi.val oq c;unfold idx at h;split at h
  ·rename_i h0;refine⟨_,?_,rfl⟩;simp[execOp,f,m,Instr.index,asIntOf,run_underlying ht,h0,sB_get,h]
  ·cases h
def lX {r:Str} (ht:P.underlying t=some .string) (hx:Fct Γ x (tv (.string (sB a)))) (p:Bd Γ lo 0 i) (s:Bd Γ hi (a.length:Int) j) (h:sub a i j=some r):
  OpJ P ⟨d,.slice t x lo hi none,ty,pos,af,g⟩ Γ [] [] (λ_=>[]) (λ_=>tv (.string (sB r))):=
 AZ λF w A C=>by
  have o:=hx.val oq C;have c:=p.use (λy hy=>by simp[Op.operands,hy]) C;have f:=s.use (λy hy=>by simp[Op.operands,hy]) C;unfold sub at h;split at h
  ·rename_i h0;have⟨D,H,L⟩:=h0;obtain rfl:=Zn h;refine⟨_,?_,rfl⟩;have I:j<=((sB a).size:Int):=by rw[D5];exact L
   have O:i<=(j.toNat:Int):=by omega
   have m:0<=j:=by omega
   have hm:max j 0=j:=by omega
   have S:¬j<i:=by omega
   rcases c with⟨c,rfl⟩ | ⟨k2,c⟩<;>rcases f with⟨f,rfl⟩ | ⟨V,f⟩
   ·simp[execOp,o,c,f,Instr.sliceAt,Instr.slice,Instr.sliceBounds,run_underlying ht]
   ·simp[execOp,o,c,f,Instr.sliceAt,Instr.slice,Instr.sliceBounds,Instr.sliceBound,asIntOf,run_underlying ht,RO,I,m]
   ·simp[execOp,o,c,f,Instr.sliceAt,Instr.slice,Instr.sliceBounds,Instr.sliceBound,asIntOf,run_underlying ht,RO,D5,D,H]
   ·simp[execOp,o,c,f,Instr.sliceAt,Instr.slice,Instr.sliceBounds,Instr.sliceBound,asIntOf,run_underlying ht,RO,I,m,D,hm,H]
  ·cases h
def lY (hx:Fct Γ x (tptr Ts)):OpJ P ⟨d,.nilCheck x,ty,pos,af,g⟩ Γ [] [] (λ_=>[]) (λ_=>tptr Ts):=AZ λF w A c=>by have h:=hx.use oq c;have⟨b,off,f,r⟩:=h;exact⟨_,by simp[execOp,f],b,off,rfl,r⟩
def Fy {q:Value} (hx:Fct Γ x (tv q)):OpJ P ⟨d,.nilCheck x,ty,pos,af,g⟩ Γ [box Ts q] [] (λ_=>[]) (λ_=>tv q):=BY λM w A hU c=>by have h:=hx.val oq c;have⟨b,cur,e,f,_⟩:=hU _ (Zi.2 rfl);subst f;exact⟨_,by simp[execOp,h],rfl⟩
def Nd {n:Nat} {k:IntKind} {b:Nat} (ht:P.underlying t=some (.array n e)) (hz:TOk P e R bytes z) (w:World) (h0:0<=i) (f:i<n):
  (Instr.indexAt t (.pointer (some ⟨b,off,none⟩)) (.int k i)).run P w=.ok (.pointer (some ⟨b,off+i.toNat * R.n,none⟩)) w:=by
 have⟨ti,c,_,h,_⟩:=hz.info;simp[Instr.indexAt,Instr.sureAddr,run_underlying ht,asIntOf,h0,f,sizeOf,typeInfo,c,h,Aj]
def lZ {n:Nat} {k:IntKind} (j:Nat) (f:i=j) (ht:P.underlying t=some (.array n e)) (hz:TOk P e R bytes z) (hx:Fct Γ x (tptr Ts)) (hi:Fct Γ y (tv (.int k i))) (h:j<n):
  OpJ P ⟨d,.indexAddr t x y,ty,pos,af,g⟩ Γ [] [] (λ_=>[]) (λ_=>tptr (Ts.drop (j * R.n))):=
 AZ λF w A c=>by have⟨b,o,m,hb,p⟩:=hx.use oq c;have r:=hi.val oq c;subst f;refine⟨_,?_,b,o+j * R.n,rfl,hb,p.part _⟩;simp only[execOp,m,r,Sem.run_bind,Nd ht hz w (Int.natCast_nonneg j) (ZT.2 h),Zl,Sem.run_pure,Zu]
def eO {n:Nat} {k:IntKind} {xs:List α} {u:α} (ht:P.underlying t=some (.array n e)) (hz:TOk P e R bytes z) (hx:Fct Γ x (tptr (xs.flatMap R.cs))) (hi:Fct Γ y (tv (.int k i))) (s:xs.length=n) (h:idx xs i=some u):
  OpJ P ⟨d,.indexAddr t x y,ty,pos,af,g⟩ Γ [] [] (λ_=>[]) (λ_=>tptr (R.cs u)):=
 AZ λF w A c=>by
  have⟨b,o,f,hb,m⟩:=hx.use oq c;have p:=hi.val oq c;unfold idx at h;split at h
  ·rename_i h0;have r:i.toNat<xs.length:=(Zf.1 h).1;refine⟨_,?_,b,o+i.toNat * R.n,rfl,hb,m.elem h⟩;simp only[execOp,f,p,Sem.run_bind,Nd ht hz w h0 (show i<(n:Int) by omega),Zl,Sem.run_pure]
  ·cases h
inductive AnyV where
 | int (n:Int)
 | str (s:Str)
deriving Inhabited
def AnyV.val (ti ts:TypeId):AnyV->Value
 | .int n=>.iface ti (.int .i64 n)
 | .str s=>.iface ts (.string (sB s))
@[reducible] def rAny (ti ts : TypeId) : Rep AnyV := ⟨λx => [tv (x.val ti ts)],1,false,λ_ => rfl,λx T h F w v c => by simp at h; subst h; have : v = _ := c; subst this; cases x <;> rfl,λ_ => rfl⟩
def AnyV.asInt:AnyV->Int×Bool | .int n=>(n,true) | .str _=>(0,false)
def AnyV.asStr:AnyV->Str×Bool | .int _=>([],false) | .str s=>(s,true)
def op_mkI {ti ts:TypeId} {n:Int} (ht:P.underlying ti=some (.int .i64)) (hx:Fct Γ x (tv (.int .i64 n))):OpJ P ⟨d,.makeInterface ti x,ty,pos,af,g⟩ Γ [] [] (λ_=>[]) (λ_=>tv (AnyV.val ti ts (.int n))):=AZ λF w A c=>⟨_,by simp[execOp,Instr.makeInterface,run_underlying ht,hx.val oq c,AnyV.val],rfl⟩
def op_mkS {ti ts:TypeId} {s:Str} (ht:P.underlying ts=some .string) (hx:Fct Γ x (tv (.string (sB s)))):OpJ P ⟨d,.makeInterface ts x,ty,pos,af,g⟩ Γ [] [] (λ_=>[]) (λ_=>tv (AnyV.val ti ts (.str s))):=AZ λF w A c=>⟨_,by simp[execOp,Instr.makeInterface,run_underlying ht,hx.val oq c,AnyV.val],rfl⟩
def op_asI {ti ts:TypeId} {u:AnyV} (hne:ti≠ts) (hz:TOk P ti rI 8 (.int .i64 0)) (ht:P.underlying ti=some (.int .i64)) (hx:Fct Γ x (tv (u.val ti ts))):OpJ P ⟨d,.typeAssert x t ti true,ty,pos,af,g⟩ Γ [] [] (λ_=>[]) (λ_=>ttup [tv (.int .i64 u.asInt.1),tv (.bool u.asInt.2)]):=
 AZ λF w A f=>by
  have h:=hx.val oq f;have⟨i,hi,c,_⟩:=hz.info
  cases u with
  | int n=>exact⟨_,by simp[execOp,Instr.typeAssert,h,AnyV.val,run_underlying ht],[.int .i64 n,.bool true],rfl,.cons rfl (.cons rfl .nil)⟩
  | str s=>exact⟨_,by simp[execOp,Instr.typeAssert,h,AnyV.val,run_underlying ht,Ne.symm hne,zeroValue,typeInfo,hi,c],[.int .i64 0,.bool false],rfl,.cons rfl (.cons rfl .nil)⟩
def op_asS {ti ts:TypeId} {u:AnyV} (hne:ti≠ts) (hz:TOk P ts rS 16 (.string .empty)) (ht:P.underlying ts=some .string) (hx:Fct Γ x (tv (u.val ti ts))):OpJ P ⟨d,.typeAssert x t ts true,ty,pos,af,g⟩ Γ [] [] (λ_=>[]) (λ_=>ttup [tv (.string (sB u.asStr.1)),tv (.bool u.asStr.2)]):=
 AZ λF w A f=>by
  have h:=hx.val oq f;have⟨i,hi,c,_⟩:=hz.info
  cases u with
  | int n=>exact⟨_,by simp[execOp,Instr.typeAssert,h,AnyV.val,run_underlying ht,hne,zeroValue,typeInfo,hi,c],[.string .empty,.bool false],rfl,.cons rfl (.cons rfl .nil)⟩
  | str s=>exact⟨_,by simp[execOp,Instr.typeAssert,h,AnyV.val,run_underlying ht],[.string (sB s),.bool true],rfl,.cons rfl (.cons rfl .nil)⟩
def tfn (P:Program) (E:List Atom) (Ts:A->List Ty) (Tr:B->Ty) (p:A->Option B):Ty:=⟨λF w v=>∃(f:FuncId) (c Tc:List Ty) (m cs:List Value),v=.func (.func f) m.toArray cs.toArray/\QW c F w m/\QW Tc F w cs/\Qj P f/\∀x b,p x=some b->FnOk P f (c++(Ts x++Tc)) E (λ_=>[]) (λ_=>Tr b),λo s ⟨f,c,Tc,m,cs,h,C,D,r⟩=>⟨f,c,Tc,m,cs,h,QW.keep o s C,QW.keep o s D,r⟩⟩
def Jo {Ts:A->List Ty} {Tr:B->Ty} {p:A->Option B} {f:FuncId} (hc:Qj P f) (h:∀x b,p x=some b->FnOk P f (Ts x++Tc) E (λ_=>[]) (λ_=>Tr b)):∀F w v,(CZ f Tc).ok F w v->(tfn P E Ts Tr p).ok F w v:=λ_ _ _ ⟨cs,m,c⟩=>⟨f,[],Tc,[],cs,m,.nil,c,hc,h⟩
def Ct {Ts:A->List Ty} {Tr:B->Ty} {p:A->Option B}:One (tfn P E Ts Tr p):=λ_ _ _ ⟨_,_,_,_,_,h,_⟩=>by rw[h];rfl
def lQ {f:Operand} {c:FuncId} {h caps:List Value} {xs:List Operand} {a:Act} (hc:Qj P c) (hf:a.eval f=.func (.func c) h.toArray caps.toArray):
  (execOp a.eval (⟨d,.call { callee:=.value f,args:=xs.toArray,argTypes:=ts },ty,pos,af,g⟩:Oper)).run P w=.ok (.enter c (h++(xs.map a.eval++caps)).toArray) w:=by
 have⟨r,m,o,p⟩:=hc;simp only[execOp,resolve,Deferred.ofValue,hf,invoke,callFunc,Sem.run_bind,Sem.run_pure,run_program,Zl,m,o,p,Yo,if_false,map_toArray];simp
end
def G7 (R:Rep α) {x:α}:∀T,T∈R.cs x->One T:=λT h=>R.one x T h
def G6 (h:∀T,T∈Ts->One T) (k:∀T,T∈Us->One T):∀T,T∈Ts++Us->One T:=λT c=>(ZH.1 c).elim (h T) (k T)
@[reducible] def rAgg (Us : List Ty) (h : ∀ T,T ∈ Us -> One T) : Rep Unit := ⟨λ_ => Us,Us.length,true,λ_ => rfl,λ_ => h,λh => by cases h⟩
theorem tokA {t:TypeId} {b:Nat} {z:Value} (hz:TOk P t R b z) (h:∀T,T∈Us->One T) (c:Us.length=R.n) (ha:R.agg=true):TOk P t (rAgg Us h) b z:=⟨by have⟨d,f,m⟩:=hz.d;exact⟨d,f,m.trans ha⟩,by show _=some (some z,Us.length,b);rw[c];exact hz.i,by show _=Us.length;rw[c];exact hz.zc⟩
def gh (x:Value) (i:Nat):Value:=match x with | .tuple a=>a.getD i undef | _=>undef
section
variable {T:Ty}
def Fx {q u:Value} (hz:TOk P t rVal bytes z) (hp:Fct Γ x (tv (padd q off))) (h:rVal.cs u=(Ts.drop off).take (rVal.cs u).length):OpJ P ⟨d,.load t x,ty,pos,af,g⟩ Γ [box Ts q] [] (λ_=>[]) (λ_=>tv u):=Jm (NQ (R:=rVal) (u:=u) hz hp h) (λ_ _ _ _ h=>h.1)
def l5 {q:Value} {xs:List α} (hz:TOk P t rVal bytes z) (hp:Fct Γ x (tv q)) (hx:Fct Γ y (tv u')) (hl:1<=Ts.length):OpJ P ⟨d,.store t x y,ty,pos,af,g⟩ Γ [own R e xs u'] [box Ts q] (λ_=>[box (splice Ts 0 (rVal.cs u')) q]) (λ_=>tany):=.say (A:=own R e xs u') sm (λ_ _ h=>EQ h) λhu=>(Ec (R:=rVal) (a:=u') (Ts:=Ts) hz hp (hx.Xo λ_ _ _ h=>⟨h,hu⟩) hl).Xq (λA hA=>by cases hA)
def l6 {q:Value} {xs:List α} (hz:TOk P t rVal bytes z) (hp:Fct Γ x (tv (padd q off))) (hx:Fct Γ y (tv u')) (hl:off+1<=Ts.length):OpJ P ⟨d,.store t x y,ty,pos,af,g⟩ Γ [own R e xs u'] [box Ts q] (λ_=>[box (splice Ts off (rVal.cs u')) q]) (λ_=>tany):=.say (A:=own R e xs u') sm (λ_ _ h=>EQ h) λhu=>(RF (R:=rVal) (a:=u') (Ts:=Ts) (off:=off) hz hp (hx.Xo λ_ _ _ h=>⟨h,hu⟩) hl).Xq (λA hA=>by cases hA)
def FC {s:TypeId} {f c:Nat} {q:Value} (hf:Qz P s f off) (hp:Fct Γ x (tv (padd q c))):OpJ P ⟨d,.fieldAddr s x f,ty,pos,af,g⟩ Γ [box Ts q] [] (λ_=>[]) (λ_=>tv (padd q (c+off))):=
 BY λM w a hU h=>by
  have m:=hp.val oq h;have⟨b,cur,e,o,_⟩:=hU _ (Zi.2 rfl);subst o;refine⟨.pointer (some ⟨b,c+off,none⟩),?_,?_⟩
  ·simp only[execOp,m,padd,Aj,Sem.run_bind,NY hf,Zl,Sem.run_pure,Nat.zero_add]
  ·show _=_;simp only[padd,Aj,Nat.zero_add]
def Vu {R2:Rep β} {f:β} {xs:List α} {u:α} (hz:TOk P t R2 bytes z) (hp:Fct Γ x (tv (padd (AX v (i.toNat * R.n)) off))) (h:idx xs i=some u) (hf:R2.cs f=((R.cs u).drop off).take (R2.cs f).length):
  OpJ P ⟨d,.load t x,ty,pos,af,g⟩ Γ [own R e xs v] [] (λ_=>[]) (λ_=>R2.ty f):=
 BY λM w a hU H=>by
  have I:=hp.val oq H;have⟨us,hc,L⟩:=Vn (hU _ (Zi.2 rfl));unfold idx at h;split at h
  ·have c:i.toNat<xs.length:=(Zf.1 h).1;rcases L with⟨_,O⟩ | ⟨b,cap,r,o⟩
   ·rw[O] at c;simp at c
   ·subst r;have p:Row (xs.flatMap R.cs) (free M w) w b 0:=λj T C=>by
     have c:j<us.length:=by rw[hc.1];exact (Zf.1 C).1
     exact⟨us[j],by rw[Nat.zero_add];exact o j _ (Zd c),hc.2 j T _ C (Zd c)⟩
    have D:=((p.elem h).part off).head hf;rw[Nat.zero_add] at D;have⟨v',m,s⟩:=F1 hz D;refine⟨v',?_,s⟩;simp only[execOp,I,AX,padd,Aj,Sem.run_bind,Nat.zero_add] at m ⊢;simp only[m,Zl,Sem.run_pure]
  ·cases h
def OpJ.roE {o:Oper} {xs:List α} (h:OpJ P o Γ U E (λv=>[own R e xs v]) (λv=>tv v)):OpJ P o Γ U E (λ_=>[]) (λ_=>tsl R xs):=by
 intro M w a O hU S s C V;refine (h M w a O hU S s C V).mono ?_;rintro v w' ⟨x,W,hm,D⟩;have D:v=x:=D;subst D;have H:=hm.ok _ (Zi.2 rfl);refine⟨undef,W,Fz,?_⟩;have c:∀k,(own R e xs v).fp k->free (next M E []) w' k:=by
  intro k X;have⟨m,I⟩:=hm.place _ (Zi.2 rfl) k X;refine⟨I,?_⟩;rintro (⟨f,L⟩ | ⟨A,hA,_⟩)
  ·rcases m with m | m
   ·exact L m
   ·have:=O k f;omega
  ·cases hA
 have r:∀k,free (next M E [own R e xs v]) w' k->free (next M E []) w' k:=by
  rintro k ⟨m,I⟩;refine⟨m,?_⟩;rintro (f | ⟨A,hA,_⟩)
  ·exact I (.inl f)
  ·cases hA
 exact CF.own (x:=.tmp 0) (Γ:=[(0,tv v)]) (U:=[own R e xs v]) (R:=R) (e:=e) (xs:=xs) (v:=v) (Fct.t 0 rfl) sm _ _ w' ⟨#[v],[]⟩ r (λA hA=>by simp at hA;subst hA;exact⟨H,c⟩) (λp hp _=>by simp at hp;subst hp;rfl)
def OpJ.gloG {o:Oper} {G:Atom} (h0:∀k,¬G.fp k) {T:Value->Ty} (h:OpJ P o Γ U (G::E) N T):OpJ P o Γ (G::U) E N T:=by
 have e1:AR (G::E)=AR E:=by
  funext k
  refine propext ⟨?_,?_⟩
  ·rintro ⟨A,hA,c⟩;rcases Zp.1 hA with rfl | hA
   ·exact (h0 k c).elim
   ·exact⟨A,hA,c⟩
  ·rintro ⟨A,hA,c⟩;exact⟨A,by simp[hA],c⟩
 intro M w a s hU C f m D;refine (h M w a s (λA hA=>hU A (by simp[hA])) (λA hA=>?_) ?_ (λA hA B p k c=>?_) D).mono ?_
 ·rcases Zp.1 hA with rfl | hA
  ·exact hU A sm
  ·exact C A hA
 ·exact pairwise_cons.2 ⟨λB _ k c=>(h0 k c).elim,f⟩
 ·rcases Zp.1 p with rfl | p
  ·exact h0 k
  ·exact m A (by simp[hA]) B p k c
 ·rintro v w' ⟨x,r,hm,ht⟩;rw[e1] at r;have e2:∀N,next M (G::E) N=next M E N:=λN=>by funext k;simp only[next,e1]
  rw[e2] at ht;exact⟨x,r,⟨hm.apart,λA hA k c=>by have:=hm.place A hA k c;rwa [e1] at this,λA hA=>by have:=hm.ok A hA;rwa [e2] at this⟩,ht⟩
def Nf {Ts:A->List Ty} {Tr:B->Ty} {p:A->Option B} {f:Operand} {xs:List Operand} {u:A} {b:B} (hf:Fct Γ f (tfn P E Ts Tr p)) (ha:Args Γ [] xs (Ts u)) (h:p u=some b):
  OpJ P ⟨d,.call { callee:=.value f,args:=xs.toArray,argTypes:=ts },ty,pos,af,g⟩ Γ [] E (λ_=>[]) (λ_=>Tr b):=by
 intro M w a H hU I o L D;have⟨O,W,Tc,X,caps,S,r,m,hc,s⟩:=hf.use sc D;have c:=ha.cells (F:=free M w) (F':=free M w) (a:=a) (λ_ h=>h) (λA hA=>by simp at hA) (λp hp hx=>D p hp (by simp[Op.operands,Call.operands,hx]));have V:=lQ (ty:=ty) (pos:=pos) (af:=af) (g:=g) (d:=d) (xs:=xs) (ts:=ts) (w:=w) hc S;simp only[Does,V];apply Calls.mono (s u b h M w _ H I o (r.append (c.append m)));rintro Y w' ⟨x0,v,C,h⟩;exact⟨v,C,x0,h⟩
def E9 (xs:Lz):Str:=xs.map λn=>UInt8.ofNat n.toNat
def AF (s:Str):Lz:=s.map λb=>(b.toNat:Int)
def H9:∀(s:Lz),(s.flatMap (rInt .u8).cs)=s.map λb=>tv (.int .u8 b)
 | []=>rfl
 | b::s=>by rw[flatMap_cons,H9 s];rfl
def op_s2b {s:Str} {u:TypeDesc} (m:P.underlying t=some u) (ht:P.underlying t2=some (.slice e)) (o:P.underlying e=some (.int .u8)) (hx:Fct Γ x (tv (.string (sB s)))):
  OpJ P ⟨d,.convert t t2 x,ty,pos,af,g⟩ Γ [] [] (λ_=>[]) (λ_=>tsl (rInt .u8) (AF s)):=
 RA λF w a D h=>by
  have p:=hx.val oq h;refine⟨_,_,by simp only[execOp,p,Sem.run_bind,Lib.run_convert_string_bytes w t t2 e (sB s) m ht o,Zl,Sem.run_pure];rfl,?_,λF' H r=>?_⟩
  ·exact⟨rfl,rfl,rfl,by rw[Lib.bytesWorld_size];omega,λk C _=>Lib.bytesWorld_at_old w e (sB s) k C⟩
  ·refine⟨some ⟨w.heap.size,0,none⟩,grownCap w (sB s).size 0 e,?_,?_,λ_=>⟨w.heap.size,0,rfl,r _ (Zq _) (by rw[Lib.bytesWorld_size];omega),λj T f=>?_⟩⟩
   ·simp[AF,D5]
   ·rw[show (AF s).length=s.length by simp[AF]];rw[D5];exact grownCap_ge _ _ _ _
   ·rw[H9] at f;have c:j<s.length:=by
     have:=(Zf.1 f).1;simpa[AF] using this
    refine⟨_,by rw[Nat.zero_add];exact Lib.bytesWorld_cell w e (sB s) j (by rw[D5];exact c),?_⟩;simp only[AF,map_map] at f;simp[c] at f;subst f;show _=_;simp[sB,Zg,c]
def Tz {xs:Lz} (ht:P.underlying t=some (.slice e)) (O:P.underlying e=some (.int .u8)) (S:P.underlying t2=some .string) (hx:Fct Γ x (tsl (rInt .u8) xs)):
  OpJ P ⟨d,.convert t t2 x,ty,pos,af,g⟩ Γ [] [] (λ_=>[]) (λ_=>tv (.string (sB (E9 xs)))):=
 AZ λF w a p=>by
  have⟨H,cap,V,_,I⟩:=hx.use oq p;have key:(Conv.bytesToString (.slice H xs.length cap)).run P w=.ok (.string (sB (E9 xs))) w:=by
   cases H with
   | none=>
    have:xs=[]:=by
     cases xs with
     | nil=>rfl
     | cons b xs=>have⟨_,_,h,_⟩:=I sm;cases h
    subst this;rfl
   | some A=>
    have c:(loadCells A xs.length).run P w=.ok (xs.map λb=>Value.int .u8 b).toArray w:=by
     rcases xs with _ | ⟨b,xs⟩
     ·rfl
     ·have⟨W,off,hA,_,o⟩:=I sm;cases hA;have:=run_loadCells_list (P:=P) w ⟨W,off,none⟩ ((b::xs).map λb=>Value.int .u8 b) (λj v L=>by
       rw[Aj];have C:((b::xs).flatMap (rInt .u8).cs)[j]?=some (tv v):=by rw[H9];simp only[Yc,Option.map_eq_some_iff] at L ⊢;obtain⟨y,X,rfl⟩:=L;exact⟨y,X,rfl⟩
       have⟨u,hu,D⟩:=o j _ C;have:u=v:=D;rw[<-this];exact hu)
      simpa using this
    have m:∀(f:Value->ByteArray->Sem (ForInStep ByteArray)),(∀n r,f (.int .u8 n) r=pure (.yield (r.push (UInt8.ofNat n.toNat))))->∀(l:Lz) (s:ByteArray),(forIn (l.map λb=>Value.int .u8 b) s f).run P w=.ok (s++sB (E9 l)) w:=by
     intro f hf l
     induction l with
     | nil=>intro s;simp only[Yy,forIn_nil,Sem.run_pure,E9];congr 1;apply ByteArray.ext;simp[sB]
     | cons b l Y=>intro s;simp only[Ys,forIn_cons,hf,Sem.run_bind,Sem.run_pure,Zl,Y];congr 1;apply ByteArray.ext;simp[E9,sB]
    simp only[Conv.bytesToString,Sem.run_bind,c,Zl,forIn_toArray];rw[m _ (λn r=>rfl) xs .empty];simp only[Zl,Sem.run_pure];congr 2
  exact⟨_,by simp only[execOp,V,convert,Sem.run_bind,run_underlying ht,run_underlying S,run_underlying O,Zl,key,Sem.run_pure],rfl⟩
end
def St.Xm {e:TypeId} {q:Value} (k:Nat) (h:St M w0 n Γ (Sim.own R e xs v::box Ts q::As) a w) (S:Ts[k]?=some (tvs v)):St M w0 n Γ (box (Ts.set k (tsl R xs)) q::As) a w:=by
 have hf:∀j,fps (box (Ts.set k (tsl R xs)) q::As) j->fps (Sim.own R e xs v::box Ts q::As) j:=by
  rintro j ⟨A,hA,f⟩;rcases Zp.1 hA with rfl | hA
  ·exact⟨box Ts q,sm,f⟩
  ·exact⟨A,by simp[hA],f⟩
 have c:∀j,free (hold M.m (Sim.own R e xs v::box Ts q::As)) w j->free (hold M.m (box (Ts.set k (tsl R xs)) q::As)) w j:=λj f=>⟨f.1,λhm=>f.2 (hm.imp id (hf j))⟩;have o:=h.own (Sim.own R e xs v) sm;have r:=h.own (box Ts q) sm;have m:=pairwise_cons.1 h.apart;have H:∀j,(Sim.own R e xs v).fp j->free (hold M.m (box (Ts.set k (tsl R xs)) q::As)) w j:=by
  intro j f;have s:=h.fresh _ Zs j f;refine⟨s.2,?_⟩;rintro (hm | ⟨A,hA,C⟩)
  ·have:=h.m0 j hm;rcases s.1 with hb | hb
   ·exact this.2 hb
   ·omega
  ·rcases Zp.1 hA with rfl | hA
   ·exact m.1 (box Ts q) sm j f C
   ·exact m.1 A (by simp[hA]) j f C
 have I:(tsl R xs).ok (free (hold M.m (box (Ts.set k (tsl R xs)) q::As)) w) w v:=CF.own (x:=.tmp 0) (Γ:=[(0,tv v)]) (U:=[Sim.own R e xs v]) (R:=R) (e:=e) (xs:=xs) (v:=v) (Fct.t 0 rfl) sm _ _ w ⟨#[v],[]⟩ c (λA hA=>by simp at hA;subst hA;exact⟨o,H⟩) (λp hp _=>by simp at hp;subst hp;rfl);refine⟨h.size,h.defers,h.grow,h.m0,?_,?_,?_,λp hp=>p.2.keep c (λ_ _=>rfl) (h.Xp p hp)⟩
 ·intro A hA;rcases Zp.1 hA with rfl | hA
  ·have⟨b,cur,e',W,hb,hc,X⟩:=r;refine⟨b,cur,e',W,hb,⟨by rw[hc.1];simp,λj T u D hu=>?_⟩,X⟩;by_cases f:k=j
   ·subst f;have L:k<Ts.length:=(Zf.1 S).1;simp[L] at D;subst D;have O:u=v:=(hc.2 k _ u S hu).1;rw[O];exact I
   ·rw[getElem?_set_ne f] at D;exact T.keep c (λ_ _=>rfl) (hc.2 j T u D hu)
  ·exact A.keep c (λ_ _=>rfl) (λ_ _=>rfl) (h.own A (by simp[hA]))
 ·intro A hA j f;rcases Zp.1 hA with rfl | hA
  ·exact h.fresh (box Ts q) sm j f
  ·exact h.fresh A (by simp[hA]) j f
 ·have V:=pairwise_cons.1 m.2;exact pairwise_cons.2 ⟨λB Y j f=>V.1 B Y j f,V.2⟩
def BV {x:Value}:One (tvs x):=λF w v c=>by have⟨f,h⟩:=c;rw[f];exact h
def tfo (T:β->Ty) (p:Option β):Ty:=match p with | none=>tv .nilFunc | some f=>T f
def Ry {T:β->Ty} {p:Option β} (h:∀f,One (T f)):One (tfo T p):=by
 cases p with
 | none=>exact QZ rfl
 | some f=>exact h f
def Hr (p:Option (A->Option B)) (u:A):Option B:=p.bind λf=>f u
def UG {M:Fr} {M0:Blk} {n:Nat} {a:Act} {p:Func} {r:List ResultVar} (x:Value) (c:List Nat) (f:A4 M0 E M) (m:St M w0 n Γ As a w) (o:p.results=r.toArray) (h:CH P Γ As r Ts) (s:Bj c=true) (C:c.filterMap (λi=>As[i]?)=N x) (D:T x=FI Ts):Ret P p M0 E w0 N T .normal a w:=FE x c f m o h s C D
def iO:∀{Ts:List Ty} {us:List Value} (_:QW Ts F w us) (vs:List Value),Ts=vs.map tv->(tv (.agg vs.toArray)).ok F w (.agg us.toArray)
 | Ts,us,hc,vs,h=>by
  subst h;have:us=vs:=by
   refine ext_getElem? λj=>?_;have hl:us.length=vs.length:=by simpa using hc.1
   rcases Nat.lt_or_ge j vs.length with c | c
   ·have:=hc.2 j (tv vs[j]) us[j] (by simp[c]) (Zd om);rw[Zd om,Zd c];exact ZU some this
   ·rw[getElem?_eq_none om,getElem?_eq_none c]
  subst this;rfl
def gloA (l:List (Nat×List Ty)):Atom:=⟨λ_=>False,λF w=>∀p∈l,F p.1/\∃cur e c,w.heap[p.1]?=some (.cells cur e c)/\QW p.2 F w cur.toList,λf m _ h p hp=>⟨f _ (h p hp).1,let⟨cur,e,c,o,r⟩:=(h p hp).2;⟨cur,e,c,by rw[m _ (h p hp).1];exact o,r.keep f m⟩⟩⟩
def G5 (G:Atom) (g:Nat) (Ts:List Ty):Prop:=∀F w,G.ok F w->F g/\∃cur e c,w.heap[g]?=some (.cells cur e c)/\QW Ts F w cur.toList
def IG (G:Atom) (g:Nat) (Ts:List Ty):Prop:=∀F w,G.ok F w->F g/\Row Ts F w g 0
def N0 {l:List (Nat×List Ty)} {g:Nat} (h:(g,Ts)∈l):G5 (gloA l) g Ts:=λ_ _ c=>c (g,Ts) h
def G5.has {G:Atom} {g:Nat} (h:G5 G g Ts):IG G g Ts:=λF w o=>by
 have⟨p,cur,e,s,r,f⟩:=h F w o;refine⟨p,λj T m=>?_⟩;have c:j<cur.toList.length:=by rw[f.1];exact (Zf.1 m).1
 refine⟨cur.toList[j],?_,f.2 j T _ m (Zd c)⟩;have:j<cur.size:=by simpa using c
 simp[World.cell?,r,this]
def A3:List (Value×Value)->Int->Option Value
 | [],_=>none
 | (.int .i64 k,v)::es,i=>if i=k then some v else A3 es i
 | _::es,i=>A3 es i
def IA (es:List (Value×Value)):Bool:=es.all λp=>match p.1 with | .int .i64 _=>true | _=>false
def G3 (es:List (Value×Value)):Ty:=⟨λF w v=>∃r f c,v=.map (some r)/\F r/\w.heap[r]?=some (.map f c)/\IA (f.toList.map λe=>(e.key,e.val))=true/\∀i,A3 (f.toList.map λe=>(e.key,e.val)) i=A3 es i,λm o ⟨r,f,c,p,h,s,C⟩=>⟨r,f,c,p,m r h,by rw[o r h];exact s,C⟩⟩
def l7:One (G3 es):=λ_ _ _ ⟨_,_,_,h,_⟩=>by rw[h];rfl
@[reducible] def rMapC (es : List (Value × Value)) : Rep Unit := ⟨λ_ => [G3 es],1,false,λ_ => rfl,λ_ => Qt l7 Ae,λ_ => rfl⟩
section
variable {T:Ty} {G:Atom}
def gT {k:Nat} {u:α} (m:IG G k Ts) (hz:TOk P t R bytes z) (h:R.cs u=Ts.take (R.cs u).length):OpJ P ⟨d,.load t (.global k),ty,pos,af,g⟩ Γ [G] [] (λ_=>[]) (λ_=>R.ty u):=BY λM w a hU p=>by have⟨_,o⟩:=m _ _ (hU _ (Zi.2 rfl));have⟨v,c,f⟩:=F1 hz (o.head h);refine⟨v,?_,f⟩;have e:a.eval (.global k)=.pointer (some ⟨k,0,none⟩):=rfl;simp only[execOp,e,Sem.run_bind,c,Zl,Sem.run_pure]
def fJ {k n:Nat} {c:IntKind} {xs:List α} {u:α} (ht:P.underlying t=some (.array n e)) (hz:TOk P e R bytes z) (f:IG G k Ts) (m:Ts=xs.flatMap R.cs) (hi:Fct Γ y (tv (.int c i))) (D:xs.length=n) (h:idx xs i=some u):
  OpJ P ⟨d,.indexAddr t (.global k) y,ty,pos,af,g⟩ Γ [G] [] (λ_=>[]) (λ_=>tptr (R.cs u)):=
 BY λM w a hU o=>by
  have⟨p,r⟩:=f _ _ (hU _ (Zi.2 rfl));subst m;have s:=hi.val oq o;have e:a.eval (.global k)=.pointer (some ⟨k,0,none⟩):=rfl;unfold idx at h;split at h
  ·rename_i h0;have C:i.toNat<xs.length:=(Zf.1 h).1;refine⟨_,?_,k,0+i.toNat * R.n,rfl,p,r.elem h⟩;simp only[execOp,e,s,Sem.run_bind,Nd ht hz w h0 (show i<(n:Int) by omega),Zl,Sem.run_pure]
  ·cases h
def gU {Ts:A->List Ty} {Tr:B->Ty} {q:β->A->Option B} {p:Option β} {f:Operand} {xs:List Operand} {u:A} {b:B} (hf:Fct Γ f (tfo (λr=>tfn P E Ts Tr (q r)) p)) (ha:Args Γ [] xs (Ts u)) (h:(p.bind λr=>q r u)=some b):
  OpJ P ⟨d,.call { callee:=.value f,args:=xs.toArray,argTypes:=ts },ty,pos,af,g⟩ Γ [] E (λ_=>[]) (λ_=>Tr b):=by
 cases p with
 | none=>cases h
 | some r=>exact Nf (p:=q r) hf ha h
def Vv (i:Int):∀(f:List MapEntry) (n:Nat),IA (f.map λe=>(e.key,e.val))=true->
  (Instr.findNow (.int .i64) (.int .i64 i) f n).map (Option.map (·.2))=some (A3 (f.map λe=>(e.key,e.val)) i)
 | [],n,_=>rfl
 | m::f,n,h=>by
  simp only[Ys,IA,all_cons,Zh] at h;have⟨o,r⟩:=h;have s:=Vv i f (n+1) r
  cases p:m.key with
  | int k j=>
   rw[p] at o;cases k<;>simp at o;simp only[Instr.findNow,p,Instr.sameNow,if_true,Ys,A3];by_cases c:i=j
   ·subst c;simp
   ·have:(i==j)=false:=by simpa using c
    simp only[this,Zb c];exact s
  | _=>rw[p] at o;simp at o
def f7 {C m:TypeId} {V:Option Value->Ty} (ht:P.underlying t=some (.map C m)) (D:P.underlying C=some (.int .i64)) (hz:(P.info? m).bind (·.zero)=some z) (hx:Fct Γ x (G3 es)) (hi:Fct Γ y (tv (.int .i64 i))) (hV:∀F w,(V (A3 es i)).ok F w ((A3 es i).getD z)):OpJ P ⟨d,.lookup t x y true,ty,pos,af,g⟩ Γ [] [] (λ_=>[]) (λ_=>ttup [V (A3 es i),tv (.bool (A3 es i).isSome)]):=
 AZ λF w A X=>by
  have⟨r,H,c,Y,_,hh,I,L⟩:=hx.use oq X;have Z:=hi.val oq X;obtain⟨ti,O,S⟩:∃ti,P.info? m=some ti/\ti.zero=some z:=by
   cases h:P.info? m with
   | none=>simp[h] at hz
   | some ti=>exact⟨ti,rfl,by simpa[h] using hz⟩
  have W:(zeroValue m).run P w=.ok z w:=by simp[zeroValue,typeInfo,O,S]
  have hf:=Vv i H.toList 0 I;rw[L] at hf;have p:∀b n,(Instr.checkKey b (n+1) C (.int .i64 i)).run P w=.ok () w:=λb n=>by simp[Instr.checkKey,run_underlying D]
  have f:(getObj r).run P w=.ok (.map H c) w:=by simp[getObj,Sem.run,hh]
  cases s:Instr.findNow (.int .i64) (.int .i64 i) H.toList 0 with
  | none=>rw[s] at hf;cases hf
  | some o=>
   rw[s] at hf;simp only[Yb,ZQ] at hf;refine⟨.tuple #[(A3 es i).getD z,.bool (A3 es i).isSome],?_,[(A3 es i).getD z,.bool (A3 es i).isSome],rfl,.cons (hV F w) (.cons rfl .nil)⟩;rw[<-hf]
   cases o with
   | none=>simp only[execOp,Y,Z,Instr.lookup,Sem.run_bind,run_underlying ht,Zl,f,Sem.run_pure,p _ 9999,Instr.findKey,run_underlying D,s,W,Option.map_none,Option.getD_none,Option.isSome_none,if_true]
   | some q=>simp only[execOp,Y,Z,Instr.lookup,Sem.run_bind,run_underlying ht,Zl,f,Sem.run_pure,p _ 9999,Instr.findKey,run_underlying D,s,Yb,ZS,Option.isSome_some,if_true]
end
def Jp (A B:Atom):Atom:=⟨λk=>A.fp k\/B.fp k,λF w=>A.ok F w/\B.ok F w/\∀k,A.fp k->¬B.fp k,λf m hf h=>⟨A.keep f m (λk c=>hf k (.inl c)) h.1,B.keep f m (λk c=>hf k (.inr c)) h.2.1,h.2.2⟩⟩
def tbp (q:Value):Ty:=⟨λ_ _ v=>(v=.pointer none\/v=q)/\v.oneCell'=true,λ_ _ h=>h⟩
def boxT (t:TypeId) (Ts:List Ty) (p:Value):Atom:=⟨λk=>p=.pointer (some ⟨k,0,none⟩),λF w=>∃b cur,p=.pointer (some ⟨b,0,none⟩)/\w.heap[b]?=some (.cells cur t (0,0))/\QW Ts F w cur.toList/\∀u∈cur.toList,u.oneCell'=true,λc f hf ⟨b,cur,hp,hb,hc,h⟩=>⟨b,cur,hp,by rw[hf b hp];exact hb,hc.keep c f,h⟩⟩
def bldE (tb e:TypeId) (l:Str) (q v:Value):Atom:=Jp (boxT tb [tbp q,tvs v] q) (own (rInt .u8) e (AF l) v)
section
variable {M0:Blk} {A B:Atom}
def fps2:∀k,fps (A::B::As) k↔fps (Jp A B::As) k:=by
 intro k;constructor
 ·rintro ⟨C,f,c⟩;rcases Zp.1 f with rfl | f
  ·exact⟨_,Zs,.inl c⟩
  ·rcases Zp.1 f with rfl | f
   ·exact⟨_,Zs,.inr c⟩
   ·exact⟨C,by simp[f],c⟩
 ·rintro ⟨C,f,c⟩;rcases Zp.1 f with rfl | f
  ·rcases c with c | c
   ·exact⟨A,sm,c⟩
   ·exact⟨B,sm,c⟩
  ·exact⟨C,by simp[f],c⟩
def Ng:hold M0 (A::B::As)=hold M0 (Jp A B::As):=by funext k;exact propext ⟨λh=>h.imp id (fps2 k).1,λh=>h.imp id (fps2 k).2⟩
def St.open2 (h:St M w0 n Γ (Jp A B::As) a w):St M w0 n Γ (A::B::As) a w:=by
 have o:=h.own _ Zs;have m:=pairwise_cons.1 h.apart;refine⟨h.size,h.defers,h.grow,h.m0,?_,?_,?_,?_⟩
 ·rw[Ng];intro C c;rcases Zp.1 c with rfl | c
  ·exact o.1
  ·rcases Zp.1 c with rfl | c
   ·exact o.2.1
   ·exact h.own C (by simp[c])
 ·intro C c k f;rcases Zp.1 c with rfl | c
  ·exact h.fresh _ Zs k (.inl f)
  ·rcases Zp.1 c with rfl | c
   ·exact h.fresh _ Zs k (.inr f)
   ·exact h.fresh C (by simp[c]) k f
 ·refine pairwise_cons.2 ⟨λC c k f=>?_,pairwise_cons.2 ⟨λC c k f=>m.1 C c k (.inr f),m.2⟩⟩;rcases Zp.1 c with rfl | c
  ·exact o.2.2 k f
  ·exact m.1 C c k (.inl f)
 ·rw[Ng];exact h.Xp
def St.close2 (h:St M w0 n Γ (A::B::As) a w):St M w0 n Γ (Jp A B::As) a w:=by
 have o:=pairwise_cons.1 h.apart;have m:=pairwise_cons.1 o.2;refine⟨h.size,h.defers,h.grow,h.m0,?_,?_,?_,?_⟩
 ·rw[<-Ng];intro C f;rcases Zp.1 f with rfl | f
  ·exact⟨h.own A sm,h.own B sm,o.1 B sm⟩
  ·exact h.own C (by simp[f])
 ·intro C f k c;rcases Zp.1 f with rfl | f
  ·rcases c with c | c
   ·exact h.fresh A sm k c
   ·exact h.fresh B sm k c
  ·exact h.fresh C (by simp[f]) k c
 ·refine pairwise_cons.2 ⟨λC f k c=>?_,m.2⟩;rcases c with c | c
  ·exact o.1 C (by simp[f]) k c
  ·exact m.1 C f k c
 ·rw[<-Ng];exact h.Xp
def St.swap (h:St M w0 n Γ (A::B::As) a w):St M w0 n Γ (B::A::As) a w:=h.perm (Perm.swap B A As)
end
section
variable {T:Ty}
def l8 {tb:TypeId} {q:Value} (h:(boxT tb Ts q).ok F w):(box Ts q).ok F w:=by have⟨b,cur,hp,hb,r⟩:=h;exact⟨b,cur,tb,hp,hb,r⟩
def OpJ.rT {o:Oper} {tb:TypeId} {q:Value} {T:Value->Ty} (h:OpJ P o Γ [box Ts q] [] N T):OpJ P o Γ [boxT tb Ts q] [] N T:=by intro M w a f hU m c p r;refine h M w a f (λA hA=>?_) m c (λA hA B s=>by cases s) r;obtain rfl:=Zi.1 hA;have:=hU _ (Zi.2 rfl);exact⟨l8 this.1,this.2⟩
def op_storeT' {a:α} {q:Value} {tb:TypeId} (hz:TOk P t R bytes z) (hp:Fct Γ x (tv (padd q off))) (hx:Fct Γ y (R.ty a)) (hl:off+R.n<=Ts.length):
  OpJ P ⟨d,.store t x y,ty,pos,af,g⟩ Γ [] [boxT tb Ts q] (λ_=>[boxT tb (splice Ts off (R.cs a)) q]) (λ_=>tany):=by
 intro M w A hM _ H _ _ I;have⟨⟨b,cur,o,hb,hc,O⟩,S⟩:=H _ (Zi.2 rfl);have h:=Cr H;have L:=hx.use oq I;have p:A.eval x=.pointer (some ⟨b,off,none⟩):=by rw[hp.val oq I,o];simp[padd,Aj]
 have V:cur.size=Ts.length:=by simpa using hc.1
 have W:(execOp A.eval (⟨d,.store t x y,ty,pos,af,g⟩:Oper)).run P w=.ok .skip (w.setRow b (splice cur.toList off (A.eval y).cells.toList).toArray):=by have r:=RE (off:=off) hz L hb om;simp only[execOp,p,Sem.run_bind,r,Zl,Sem.run_pure]
 simp only[Does,W];have f:∀{Us:List Ty} k,(boxT tb Us q).fp k↔k=b:=by intro Us k;rw[o];exact Na (Ts:=Us)
 have c:∀k,AR [boxT tb Ts q] k↔k=b:=by intro k;rw[AU,f]
 refine⟨undef,Gs ((c b).2 rfl),BX (λk m=>?_) ?_,trivial⟩
 ·have m:=(f k).1 m;subst m;refine⟨.inl ((c _).2 rfl),?_⟩;have:=(Array.getElem?_eq_some_iff.1 hb).1;simpa using this
 ·have⟨s,C,_⟩:=Ej L;refine⟨b,_,o,setRow_heap w b cur _ tb _ hb,?_,?_⟩
  ·have D:=(hc.splice (off:=off) s (by rw[R.len];exact hl));simp only;apply D.Xr
   ·intro k m;refine Cp sm h (λB X j Y=>?_) m;obtain rfl:=Zi.1 X;exact .inl ((c j).2 ((f j).1 Y))
   ·rintro k ⟨h2,Z⟩;exact setRow_other w b k _ (λe=>Z (h k ((c k).2 e)))
  ·simpa using Vb (off:=off) O C
def Um {xs:List α} {q:Value} {tb:TypeId} (hz:TOk P t rVal bytes z) (hp:Fct Γ x (tv (padd q off))) (hx:Fct Γ y (tv u')) (hl:off+1<=Ts.length):
  OpJ P ⟨d,.store t x y,ty,pos,af,g⟩ Γ [own R e xs u'] [boxT tb Ts q] (λ_=>[boxT tb (splice Ts off (rVal.cs u')) q]) (λ_=>tany):=
 .say (A:=own R e xs u') sm (λ_ _ h=>EQ h) λhu=>(op_storeT' (R:=rVal) (a:=u') (Ts:=Ts) (off:=off) hz hp (hx.Xo λ_ _ _ h=>⟨h,hu⟩) hl).Xq (λA hA=>by cases hA)
def UK {tb o:TypeId} {bs:Nat} (hi:(P.info? tb).map (λi=>(i.zero,i.size,i.bytes))=some (some (.agg #[.pointer none,.slice none 0 0]),2,bs)):
  OpJ P ⟨d,.alloc tb,ty,pos,af,g⟩ Γ [] [] (λp=>[bldE tb o [] p nilV]) (λp=>tv p):=by
 intro M w A C _ _ _ _ _;obtain⟨ti,f,m⟩:∃ti,P.info? tb=some ti/\ti.zero=some (.agg #[.pointer none,.slice none 0 0]):=by
  cases hx:P.info? tb with
  | none=>simp[hx] at hi
  | some i=>simp only[hx,Yb,ZQ,Yf] at hi;exact⟨i,rfl,hi.1⟩
 have r:(execOp A.eval (⟨d,.alloc tb,ty,pos,af,g⟩:Oper)).run P w=.ok (.value (.pointer (some ⟨w.heap.size,0,none⟩))) (w.alloc (.cells #[.pointer none,.slice none 0 0] tb)):=by simp[execOp,Instr.alloc,zeroValue,typeInfo,f,m,newVar,newRow,Value.cells]
 simp only[Does,r];refine⟨.pointer (some ⟨w.heap.size,0,none⟩),(Step.alloc w _).mono (λ_ h=>h.elim),BX (λk c=>?_) ?_,rfl⟩
 ·have c:k=w.heap.size:=by
   rcases c with c | c
   ·exact (Na (Ts:=[])).1 c
   ·cases c
  subst c;exact⟨.inr (Zq _),sm⟩
 ·refine⟨⟨w.heap.size,_,rfl,heap_alloc_new w _,?_,?_⟩,⟨[],World.ownsRow_nil _ _ _ _,rfl,λj T u s=>by simp[AF] at s⟩,λk _ c=>by cases c⟩
  ·exact .cons ⟨.inl rfl,rfl⟩ (.cons ⟨rfl,rfl⟩ .nil)
  ·intro u hu;simp at hu;rcases hu with rfl | rfl<;>rfl
def l9 {xs:Lz} {F':Blk} {s:Str} (ht:P.underlying t=some (.slice e)) (hu:P.underlying t2=some .string) (hz:TOk P e (rInt .u8) 1 (.int .u8 0)) (ho:(own (rInt .u8) e xs v).ok F w) (hF:∀k,F k->k<w.heap.size/\¬(own (rInt .u8) e xs v).fp k) (Y:∀k,F k->F' k) (h:rm (xs.length+s.length)=some ()):
  ∃v' w',(Builtin.append_ #[t,t2] ty #[v,.string (sB s)]).run P w=.ok v' w'/\Step (own (rInt .u8) e xs v).fp w w'/\(∀k,(own (rInt .u8) e (xs++AF s) v').fp k->((own (rInt .u8) e xs v).fp k\/w.heap.size<=k)/\k<w'.heap.size)/\(own (rInt .u8) e (xs++AF s) v').ok F' w':=by
 have⟨ti,O,Z,hs,a0⟩:=hz.info;have H:ti.size=1:=hs;have S:xs.length+s.length<=68719476736:=by unfold rm at h;split at h<;>first | assumption | cases h
 have f:=D5 s;have hlen:(AF s).length=s.length:=by simp[AF]
 have p:(Lib.strCells (sB s)).length=s.length:=by rw[Lib.strCells_length,f]
 have V:∀F w,QW ((AF s).flatMap (rInt .u8).cs) F w (Lib.strCells (sB s)):=by intro F w;rw[H9];refine⟨by simp[p,hlen],λj T u hT hu=>?_⟩;simp only[Lib.strCells,AF,sB,map_map,Yc,Option.map_eq_some_iff] at hT hu;obtain⟨c,h1,rfl⟩:=hT;obtain⟨c',h2,rfl⟩:=hu;have:some c=some c':=h1.symm.trans h2;cases this;rfl
 have a5:(xs.flatMap (rInt .u8).cs).length=xs.length:=by rw[H9];simp
 have a6:∀k,(own (rInt .u8) e xs v).fp k->k<w.heap.size:=by
  intro k m;rcases CG ho with⟨W,_⟩ | ⟨b,cap,cur,W,D,_⟩
  ·rw[W] at m;cases m
  ·rw[W] at m;rw[BB.1 m];exact (Array.getElem?_eq_some_iff.1 D).1
 have a1:(Value.int u8 0).cells.size=1:=rfl;rcases CG ho with⟨W,hx⟩ | ⟨gb,cap,cur,W,D,h1,h2,h3,h4⟩
 ·subst W;subst hx;by_cases a2:s=[]
  ·subst a2;refine⟨.slice none 0 0,w,?_,Step.refl _ _,λk m=>(by exact absurd m (by intro h;cases h)),?_⟩
   ·have hf:=Lib.run_firstCells_string (P:=P) w 1 (sB []);have e0:(sB []).size=0:=rfl;have e4:(⟨#[]⟩:ByteArray)=ByteArray.empty:=rfl;rw[e0] at hf;have e5:Lib.strCells (sB [])=[]:=rfl;rw[e5] at hf;simp[Builtin.append_,run_underlying ht,run_underlying hu,sizeOf,typeInfo,O,H,Builtin.lenOf,e0,hf]
   ·exact⟨[],World.ownsRow_nil _ _ _ _,rfl,λj T u hT=>by simp[AF] at hT⟩
  ·have a4:0<s.length:=by
    rcases s with _ | ⟨b,s⟩
    ·exact (a2 rfl).elim
    ·simp
   simp only[Zm,Nat.zero_add] at S;have o:=run_append_nil_string (P:=P) w t t2 ty e ti (.int .u8 0) ht hu O Z (sB s) (by rw[f];omega) (by rw[f];omega) (by rw[f,a0];omega);have r:=grownCap_ge w (sB s).size 0 e;have I:=grownCap_le_maxLen w (sB s).size 0 e (by rw[f];unfold maxLen;omega);have e1:((sB s).data.map λb=>Value.int .u8 b.toNat)=(Lib.strCells (sB s)).toArray:=by apply Array.ext';simp[Lib.strCells]
   rw[e1] at o;refine⟨_,_,o,⟨rfl,rfl,rfl,sm,λk m _=>Go.RowKit.Below.heap_alloc w.drew _ k m⟩,?_,?_⟩
   ·intro k m;rw[BB.1 m];exact⟨.inr (Zq _),sm⟩
   ·rw[Yl,f,<-hlen];rw[f,<-hlen] at r I;apply FH (heap_alloc_new w.drew _) r I
    ·rw[hlen] at r ⊢;simp only[Array.size_append,size_toArray,size_zeroCells,a1,p];show _=_ * 1;omega
    ·have e2:((Lib.strCells (sB s)).toArray++Builtin.zeroCells (Value.int .u8 0).cells (grownCap w (AF s).length 0 e - (AF s).length)).toList.take ((AF s).length * 1)=Lib.strCells (sB s):=by
      rw[Array.toList_append,take_left' (by rw[toList_toArray,p,hlen,Nat.mul_one])]
     show QW _ F' _ (take ((AF s).length * 1) _);rw[e2];exact V _ _
 ·subst W;have a3:cur.size=cap:=by simpa using h3
  by_cases L:xs.length+s.length<=cap
  ·have o:=Lib.run_append_room_string (P:=P) w t t2 ty e ti ht hu O H gb xs.length cap cur D (sB s) (by rw[f];exact L) (by rw[f,a3];exact L);refine⟨_,_,o,Gs (BB.2 rfl),?_,?_⟩
   ·intro k m;rw[BB.1 m];exact⟨.inl (BB.2 rfl),by simpa using (Array.getElem?_eq_some_iff.1 D).1⟩
   ·have el:xs.length+(sB s).size=(xs++AF s).length:=by rw[f];simp[hlen]
    rw[el];apply FH (setRow_heap w gb cur _ e _ D) (by rw[<-el,f];exact L) h2
    ·simp only[size_toArray,Ze,ZY,Yi,Array.length_toList,p];show _=cap * 1;omega
    ·have e2:(cur.toList.take xs.length++Lib.strCells (sB s)++cur.toList.drop (xs++AF s).length).take ((xs++AF s).length * 1)=cur.toList.take (xs.length * 1)++Lib.strCells (sB s):=by
      rw[Nat.mul_one,Nat.mul_one];apply take_left';rw[Ze,p,ZY,<-el,f];simp;omega
     show QW _ F' _ (take ((xs++AF s).length * 1) (toArray _).toList);rw[toList_toArray,e2,ZM];exact (h4.Xr Y (λk m=>setRow_other w gb k _ (λe=>(hF k m).2 (BB.2 e)))).append (V _ _)
  ·have X:∀j u,(cur.toList.take xs.length)[j]?=some u->w.cell? ((⟨gb,0,none⟩:Addr).add j)=some u:=by
    intro j u hu;rw[getElem?_take] at hu;split at hu
    ·rw[Aj,Nat.zero_add];simpa[World.cell?,D] using hu
    ·cases hu
   have C:(cur.toList.take xs.length).length=xs.length * ti.size:=by rw[H];simp;omega
   have o:=Lib.run_append_grow_string (P:=P) w t t2 ty e ti (.int .u8 0) ht hu O Z ⟨gb,0,none⟩ xs.length cap _ C X (sB s) (by rw[f];omega) (by rw[f];omega) (growslice_fits (by rw[f];omega) (by rw[a0,f];omega));have r:=grownCap_ge w (xs.length+(sB s).size) cap e;have I:=grownCap_le_maxLen w (xs.length+(sB s).size) cap e (by rw[f];unfold maxLen;omega);refine⟨_,_,o,⟨rfl,rfl,rfl,sm,λk m _=>Go.RowKit.Below.heap_alloc w.drew _ k m⟩,?_,?_⟩
   ·intro k m;rw[BB.1 m];exact⟨.inr (Zq _),sm⟩
   ·have el:xs.length+(sB s).size=(xs++AF s).length:=by rw[f];simp[hlen]
    rw[el] at r I ⊢;apply FH (heap_alloc_new w.drew _) r I
    ·simp only[Array.size_append,size_toArray,size_zeroCells,a1,C,p,H,Ze,hlen];simp only[Ze,hlen] at r;show _=_ * 1;omega
    ·have e2:(((cur.toList.take xs.length).toArray++(Lib.strCells (sB s)).toArray++Builtin.zeroCells (Value.int .u8 0).cells (grownCap w (xs++AF s).length cap e - (xs++AF s).length)).toList).take ((xs++AF s).length * 1)=cur.toList.take (xs.length * 1)++Lib.strCells (sB s):=by
      rw[Array.toList_append,Array.toList_append,Nat.mul_one,Nat.mul_one];apply take_left';simp only[Ze,C,p,H,hlen,Nat.mul_one]
     show QW _ F' _ (take ((xs++AF s).length * 1) _);rw[e2,ZM];exact (h4.Xr Y (λk m=>Go.RowKit.Below.heap_alloc w.drew _ k (hF k m).1)).append (V _ _)
def iL {xs:Lz} {s:Str} (ht:P.underlying t=some (.slice e)) (hu:P.underlying t2=some .string) (hz:TOk P e (rInt .u8) 1 (.int .u8 0)) (hx:Fct Γ x (tv v)) (hy:Fct Γ y (tv (.string (sB s)))) (h:rm (xs.length+s.length)=some ()):
  OpJ P ⟨d,.call { callee:=.builtin .append,args:=#[x,y],argTypes:=#[t,t2] },ty,pos,af,g⟩ Γ [] [own (rInt .u8) e xs v] (λv'=>[own (rInt .u8) e (xs++AF s) v']) (λv'=>tv v'):=by
 intro M w A X _ H _ _ I;have⟨L,C⟩:=H _ (Zi.2 rfl);have p:=Cr H;have O:=hx.val sc I;have S:=hy.val sc I;have⟨v',w',r,c,f,D⟩:=l9 (ty:=ty) (F:=free M w) (F':=λk=>k<w.heap.size/\¬M k) ht hu hz L (λk m=>⟨m.1,λhf=>m.2 (C k hf)⟩) (λk m=>m) h;have o:(execOp A.eval (⟨d,.call { callee:=.builtin .append,args:=#[x,y],argTypes:=#[t,t2] },ty,pos,af,g⟩:Oper)).run P w=.ok (.value v') w':=by simp only[execOp,resolve,invoke,builtin,Sem.run_bind,Sem.run_pure,Zl,map_toArray,Ys,Yy,O,S,r]
 simp only[Does,o];refine⟨v',c.mono (λk m=>AU.2 m),BX (λk m=>⟨(f k m).1.imp AU.2 id,(f k m).2⟩) ?_,rfl⟩;refine Atom.keep _ (λk m=>?_) (λ_ _=>rfl) (λ_ _=>rfl) D;refine Cp c.size p (λB V j W=>?_) m;obtain rfl:=Zi.1 V;exact (f j W).1.imp AU.2 id
def iM {xs:List α} (hne:xs≠[]) (hx:Fct Γ x (tv v)):OpJ P ⟨d,.call { callee:=.builtin .unsafeSliceData,args:=#[x],argTypes:=#[t] },ty,pos,af,g⟩ Γ [own R e xs v] [] (λ_=>[]) (λ_=>tv (AX v 0)):=
 BY λM w A hU c=>by
  have f:=hx.val sc c;rcases CG (hU _ (Zi.2 rfl)) with⟨_,h⟩ | ⟨b,cap,cur,m,_,hl,_⟩
  ·exact (hne h).elim
  ·subst m;have hc:cap≠0:=by
    have:0<xs.length:=length_pos_iff.2 hne;omega
   refine⟨.pointer (some ⟨b,0,none⟩),by simp only[execOp,resolve,invoke,builtin,Sem.run_bind,Sem.run_pure,Zl,map_toArray,Ys,Yy,f,Lib.run_unsafeSliceData_row (P:=P) (w:=w) #[t] ty ⟨b,0,none⟩ xs.length cap hc],?_⟩;show _=_;simp[AX,Addr.add]
def iN {l:Str} {D H:TypeId} (hp:P.underlying D=some (.pointer e)) (hc:P.cellsOf e=1) (hne:l≠[]) (hx:Fct Γ x (tv (AX v 0))) (hy:Fct Γ y (tv (.int .i64 ((AF l).length:Int)))):
  OpJ P ⟨d,.call { callee:=.builtin .unsafeString,args:=#[x,y],argTypes:=#[D,H] },ty,pos,af,g⟩ Γ [] [own (rInt .u8) e (AF l) v] (λ_=>[]) (λ_=>tv (.string (sB l))):=by
 intro M w A hM _ Y _ _ S;have⟨Z,a0⟩:=Y _ (Zi.2 rfl);have h1:=hx.val sc S;have V:=hy.val sc S;have hlen:(AF l).length=l.length:=by simp[AF]
 rw[hlen] at V;rcases CG Z with⟨_,hn⟩ | ⟨b,cap,cur,hv,hb,hl,hm,hs,m⟩
 ·have:l.length=0:=by rw[<-hlen,hn];rfl
  exact (hne (ZW this)).elim
 ·subst hv;have p:=Lib.run_unsafeString_row (P:=P) w D H ty e hp hc b cur.size (by simp[World.shape?,hb]) l hne (by rw[hs,<-hlen];show _<=cap * 1;omega) (by unfold maxLen at hm;omega) (λj c W=>by
   rw[Aj,Nat.zero_add];have a1:j<l.length:=(Zf.1 W).1;have X:((AF l).flatMap (rInt .u8).cs)[j]?=some (tv (.int .u8 (c.toNat:Int))):=by rw[H9];simp[AF,W]
   have r:j<(cur.toList.take ((AF l).length * (rInt .u8).n)).length:=by rw[m.1];exact (Zf.1 X).1
   have:=m.2 j _ _ X (Zd r);have s:cur.toList[j]?=some (.int .u8 (c.toNat:Int)):=by
    have C:=Zd r;rw[show (cur.toList.take ((AF l).length * (rInt .u8).n))[j]=Value.int .u8 (c.toNat:Int) from this] at C;rw[getElem?_take] at C;split at C
    ·exact C
    ·cases C
   simpa[World.cell?,hb] using s)
  have I:AX (Value.slice (some ⟨b,0,none⟩) (AF l).length cap) 0=.pointer (some ⟨b,0,none⟩):=by simp[AX,Addr.add]
  have o:(execOp A.eval (⟨d,.call { callee:=.builtin .unsafeString,args:=#[x,y],argTypes:=#[D,H] },ty,pos,af,g⟩:Oper)).run P w=.ok (.value (.string ⟨l.toArray⟩)) (w.freeze ⟨b,0,none⟩ l.length):=by simp only[execOp,resolve,invoke,builtin,Sem.run_bind,Sem.run_pure,Zl,map_toArray,Ys,Yy,h1,V,I,p]
  simp only[Does,o];refine⟨undef,?_,Fz,rfl⟩;have f:l.length≠0:=λh=>hne (ZW h);refine⟨by simp[World.freeze,f],by simp[World.freeze,f],by simp[World.freeze,f],by simp[World.freeze,f],λk hk L=>?_⟩;have O:b≠k:=λe=>L (AU.2 (BB.2 e.symm));simp[World.freeze,f,Array.getElem?_modify,O]
end
section
variable {k:Nat} {q:Value} {u:α}
def F3 (h:idx xs i=some u):0<=i/\i.toNat<xs.length/\xs[i.toNat]?=some u:=by
 unfold idx at h;split at h
 ·exact⟨by assumption,(Zf.1 h).1,h⟩
 ·cases h
section
variable {ys:List β}
end
end
def arr_at {L:List α} {o k:Nat} {u:α} (c:R.n=1) (h:(Ts.drop o).take L.length=L.flatMap R.cs) (f:L[k]?=some u):R.cs u=(Ts.drop (o+k)).take (R.cs u).length:=by
 have hl:(R.cs u).length=1:=by rw[R.len,c]
 have p:=(Zf.1 f).1;rw[hl];apply ext_getElem?;intro m;rw[getElem?_take];by_cases hm:m<1
 ·have:m=0:=by omega
  subst this;rw[Zc hm,getElem?_drop];have e:=Fq R L k 0 u f om;rw[<-h,c,getElem?_take,Zc om,getElem?_drop] at e;rw[<-e];congr 1;omega
 ·rw[Zb hm,getElem?_eq_none om]
section
variable {T:Ty}
def MV {n:Nat} {k:IntKind} {q:Value} {L:List α} {u:α} (ht:P.underlying t=some (.array n e)) (hz:TOk P e R bytes z) (f:R.n=1) (hx:Fct Γ x (tv q)) (hi:Fct Γ y (tv (.int k i))) (s:L.length=n) (h:idx L i=some u):
  OpJ P ⟨d,.indexAddr t x y,ty,pos,af,g⟩ Γ [box Ts q] [] (λ_=>[]) (λ_=>tv (padd q (0+i.toNat))):=
 BY λM w A hU c=>by have m:=hx.val oq c;have o:=hi.val oq c;have⟨b,cur,e,p,_⟩:=hU _ (Zi.2 rfl);subst p;have⟨h0,r,_⟩:=idx_lt' h;refine⟨_,?_,rfl⟩;simp only[execOp,m,o,Sem.run_bind,padd,Aj,Nd ht hz w h0 (show i<(n:Int) by omega),Zl,Sem.run_pure,f,Nat.mul_one,Nat.zero_add]
def T6 {q:Value} {o:Nat} {L:List α} {u:α} (hz:TOk P t R bytes z) (c:R.n=1) (hp:Fct Γ x (tv (padd q (o+i.toNat)))) (f:(Ts.drop o).take L.length=L.flatMap R.cs) (h:idx L i=some u):
  OpJ P ⟨d,.load t x,ty,pos,af,g⟩ Γ [box Ts q] [] (λ_=>[]) (λ_=>R.ty u):=
 NQ hz hp (arr_at c f (idx_lt' h).2.2)
def Ub {a u:α} {q:Value} {o:Nat} {L:List α} (hz:TOk P t R bytes z) (c:R.n=1) (hp:Fct Γ x (tv (padd q (o+i.toNat)))) (hx:Fct Γ y (R.ty a)) (h:idx L i=some u) (hl:o+L.length<=Ts.length) (f:splice Ts (o+i.toNat) (R.cs a)=Us):
  OpJ P ⟨d,.store t x y,ty,pos,af,g⟩ Γ [] [box Ts q] (λ_=>[box Us q]) (λ_=>tany):=by
 subst f;exact RF hz hp hx (by have:=(idx_lt' h).2.1;rw[c];omega)
def Wl {pre post X m Y:List β} {o k:Nat} (c:pre.length=o) (f:k+m.length<=X.length) (h:splice X k m=Y):splice (pre++X++post) (o+k) m=pre++Y++post:=by subst h;subst c;unfold splice;rw[ZJ pre X post,take_length_add_append,take_append_of_le_length om,YC,drop_length_add_append,drop_append_of_le_length f];simp
end
section
variable {ops:Array Oper} {l:Nat}
def mA {o:Oper} {a:Act} (s:∀c,o.op≠.defer c) (h:o.wpIn Fence.wide n P a w K Q):o.wpIn (Fence.wide.inRound l) n P a w K Q:=by
 unfold Oper.wpIn at h ⊢;refine⟨λ_ _=>trivial,?_⟩;have h:=h.2;rw[show Fence.wide.round=none from rfl,Oper.semAt_none] at h;rw[Fence.inRound_round,Oper.semAt_some l _ o s];generalize (execOp a.eval o).run P w=r at h ⊢
 match r,h with
 | .ok (.value v) w',h=>exact h
 | .ok .skip w',h=>exact h
 | .ok (.defer d) w',h=>exact h
 | .ok (.enter f args) w',h=>exact⟨λm=>(by cases m),CallsIn.inRound l h.2⟩
 | .ok (.row C args) w',h=>exact⟨λm=>(by cases m),h.2⟩
 | .ok (.round l f tmps p body) w',h=>exact⟨λm=>(by cases m),h.2⟩
 | .halt (.panic v) w',h=>exact h
def Vw {i:Nat} {a:Act} (p:∀(i:Nat) (o:Oper),ops[i]?=some o->∀c,o.op≠.defer c) (h:wpOpIn Fence.wide n P ops Q i K a w):wpOpIn (Fence.wide.inRound l) n P ops Q i K a w:=by
 unfold wpOpIn at h ⊢
 cases f:ops[i]? with
 | none=>rw[f] at h;exact h
 | some o=>
  rw[f] at h;dsimp only at h ⊢;split
  ·rename_i m;rw[Zc m] at h;exact mA (p i o f) h
  ·rename_i m;rw[Zb m] at h;exact⟨λ_ _=>trivial,h.2⟩
def Vx (m:∀(i:Nat) (o:Oper),ops[i]?=some o->∀c,o.op≠.defer c):∀(f:List Nat) (a:Act) (w:World),wpOpsIn Fence.wide n P ops Q f a w->wpOpsIn (Fence.wide.inRound l) n P ops Q f a w
 | [],_,_,h=>h
 | i::f,a,w,h=>by rw[wpOpsIn_cons] at h ⊢;exact wpOpIn_mono (λa w h=>Vx m f a w h) (Vw m h)
def Vy (m:∀(i:Nat) (o:Oper),ops[i]?=some o->∀c,o.op≠.defer c):∀(fuel:Nat) (f:Array Bool) (a:Act) (w:World),wpAnyIn Fence.wide n P .any ops Q fuel f a w->wpAnyIn (Fence.wide.inRound l) n P .any ops Q fuel f a w
 | 0,_,_,_,h=>h
 | fuel+1,f,a,w,h=>⟨h.1,λi hi=>wpOpIn_mono (λa w h=>Vy m fuel _ a w h) (Vw m (h.2 i hi))⟩
def mB {Inv:(Nat->Bool)->Act->World->Prop} {id:Nat} {a:Act} (hm:draw=true->P.follows .mixedOrders=true) (m:∀(i:Nat) (o:Oper),ops[i]?=some o->∀c,o.op≠.defer c) (r:H6 P ops Q Inv) (f:Acyc ops) (h:∀S a w,(∀i,i<ops.size->S i=true)->Inv S a w->Q .normal a w) (h0:∀w',w'=w\/w'=w.drew->Inv (λ_=>false) a w'):(Code.region id ops draw).wpIn (Fence.wide.inRound l) 0 P Q a w:=by
 cases draw with
 | false=>refine wpIn_region (Vx m _ _ _ ?_);rw[range_eq_range'];exact VL r f h ops.size 0 om a w (sa (h0 w (.inl rfl)))
 | true=>
  refine wpIn_region_any (hm rfl) (Vy m _ _ _ _ ?_);apply VN r f h ops.size _ a _ sm
  ·unfold Je;have:=countP_le_length (p:=λb=>!b) (l:=(Array.replicate ops.size false).toList);simpa using this
  ·have e:(λj=>(Array.replicate ops.size false).getD j false)=λ_=>false:=by
    funext j
    simp only[Array.getD_eq_getD_getElem?,Array.getElem?_replicate];split<;>rfl
   rw[e];exact h0 w.drew (.inr rfl)
end
def mC {ops:List Oper} {M:Fr} {n l:Nat} {a:Act} {id:Nat} {f:List Info} (hm:P.follows .mixedOrders=true) (I:∀o∈ops,∀c,o.op≠.defer c) (m:List Ver) (s:St M w0 n Γ As a w) (p:∀new,Run P ops (verA As m) new 0 Γ ops f) (r:chk ops f ((verA As m).map (·.ds)) (Γ.map (·.1)) As.length (verA As m).length n=true) (L:∀new H w',St M w0 n (outG ops f Γ new) (Cb (verA As m) f new) H w'->Q .normal H w'):(Code.region id ops.toArray draw).wpIn (Fence.wide.inRound l) 0 P Q a w:=
 VZ _ f (λ_ O C D h0=>mB (λ_=>hm) (λi o S=>I o (Zo (sa S))) O C D h0) s p (λu A h x=>Vh As m u A h x) r L

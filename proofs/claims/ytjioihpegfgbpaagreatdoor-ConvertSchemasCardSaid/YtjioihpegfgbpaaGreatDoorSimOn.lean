/- The logic's part for core.Only. No condition. -/
import Derived.Test.YtjioihpegfgbpaaGreatDoorSimP
import Derived.DeepKeys3
set_option linter.all false
open List Go.IntKind
namespace Go.Sim
section
variable {Γ:List (Nat×Ty)} {P:Program} {d:Option Tmp} {ty:TypeId} {pos:String} {af:Array Edge} {g:Option (Nat×Bool)} {x y:Operand} {t t2 e:TypeId} {α:Type} {R:Rep α} {bytes:Nat} {z:Value} {v:Value}
def QdU {m:Nat} {xs:List α} (hp:Fct Γ x (tv (QaX v m))) (hne:xs≠[]):OpJ P ⟨d,.nilCheck x,ty,pos,af,g⟩ Γ [own R e xs v] [] (λ_=>[]) (λ_=>tv (QaX v m)):=
 Qcq λM w a hU he=>by
  have hv:=hp.val (by simp[Op.operands]) he;rcases Qa8 (hU _ (Zg.2 rfl)) with⟨_,hn⟩ | ⟨b,cap,cur,hvv,_⟩
  ·exact (hne hn).elim
  ·subst hvv;exact⟨_,by simp[execOp,hv,QaX],rfl⟩
def QqW {m off:Nat} {xs:List α} (hp:Fct Γ x (tv (padd (QaX v m) off))) (hne:xs≠[]):OpJ P ⟨d,.nilCheck x,ty,pos,af,g⟩ Γ [own R e xs v] [] (λ_=>[]) (λ_=>tv (padd (QaX v m) off)):=
 Qcq λM w a hU he=>by
  have hv:=hp.val (by simp[Op.operands]) he;rcases Qa8 (hU _ (Zg.2 rfl)) with⟨_,hn⟩ | ⟨b,cap,cur,hvv,_⟩
  ·exact (hne hn).elim
  ·subst hvv;exact⟨_,by simp[execOp,hv,QaX,padd],rfl⟩
def QnM {β:Type} (l:List β):∀(n j:Nat),((replicate n l).flatten)[j]?=if j<n * l.length then l[j % l.length]? else none
 | 0,j=>by simp
 | n+1,j=>by
  have e:(n+1) * l.length=n * l.length+l.length:=Nat.succ_mul _ _;rw[replicate_succ,flatten_cons,getElem?_append];split
  ·rename_i h;rw[Ze (by omega),Nat.mod_eq_of_lt h]
  ·rename_i h;rw[QnM l n];by_cases hj:j - l.length<n * l.length
   ·rw[Ze hj,Ze (by omega),Nat.mod_eq_sub_mod (a:=j) (b:=l.length) (by omega)]
   ·rw[Zb hj,Zb (by omega)]
def Qud (zs:Array Value) (n:Nat):(Builtin.zeroCells zs n).toList=(replicate n zs.toList).flatten:=by
 apply ext_getElem?;intro j;rw[QnM];unfold Builtin.zeroCells;by_cases hj:j<n * zs.size
 ·have h0:j % zs.size<zs.size:=Nat.mod_lt _ (by
   rcases Nat.eq_zero_or_pos zs.size with h | h
   ·rw[h] at hj;omega
   ·exact h)
  rw[Ze (by simpa using hj)];simp[hj,h0]
 ·rw[Zb (by simpa using hj)];simp[Nat.not_lt.1 hj]
def QnE {xs ys:List α} {x0:α} {lo:Int} (ht:P.underlying t=some (.slice e)) (hz:TOk P e R bytes z) (hz0:∀F w,(R.ty x0).ok F w z) (hx:Fct Γ x (tv (cutV R.n v lo xs.length))) (hs:sub xs lo xs.length=some ys):
  OpJ P ⟨d,.call { callee:=.builtin .clear,args:=#[x],argTypes:=#[t] },ty,pos,af,g⟩ Γ [] [own R e xs v] (λ_=>[own R e (xs.take lo.toNat++replicate ys.length x0) v]) (λ_=>tany):=by
 intro M w A hM _ hE _ _ he;obtain⟨ho,hfp⟩:=hE _ (Zg.2 rfl);have hgiv:=QdA hE;have h1:=hx.val (by simp[Op.operands,Call.operands]) he;obtain⟨ti,hti,htz,hsz,_⟩:=hz.info;obtain⟨c0,c1,c2,hd,hdl⟩:=QgX hs;have hzr:∀w,(zeroValue e).run P w=.ok z w:=λw=>by simp[zeroValue,typeInfo,hti,htz]
 have hex:∀r w',(Builtin.clear_ #[t] ty #[cutV R.n v lo xs.length]).run P w=.ok r w'->(execOp A.eval (⟨d,.call { callee:=.builtin .clear,args:=#[x],argTypes:=#[t] },ty,pos,af,g⟩:Oper)).run P w=.ok (.value r) w':=by intro r w' hr;simp only[execOp,resolve,invoke,builtin,Sem.run_bind,Sem.run_pure,Zj,map_toArray,Yf,Yi,h1,hr]
 have hyl:(xs.take lo.toNat++replicate ys.length x0).length=xs.length:=by simp only[Zd,ZE,Ym];omega
 rcases Qa8 ho with⟨hv,hxs⟩ | ⟨b,cap,cur,hv,hbk,hlc,hmx,hcs,hcl⟩
 ·subst hv;subst hxs;obtain⟨a1,rfl⟩:=Qo9 (m:=R.n) hs;have hr:=hex (.tuple #[]) w (by rw[a1];simp[Builtin.clear_,run_underlying ht]);simp only[Does,hr];refine⟨undef,Step.refl _ _,QbQ (λk hk=>⟨.inl (Qak.2 hk),hM k (hfp k hk)⟩) ?_,trivial⟩;simp only[take_nil,Zk,replicate_zero,Yd];exact QlG
 ·subst hv;by_cases hy:ys=[]
  ·have hl0:ys.length=0:=by rw[hy];rfl
   obtain⟨ad,c,hc1⟩:∃ad c,cutV R.n (.slice (some ⟨b,0,none⟩) xs.length cap) lo xs.length=.slice ad ys.length c:=⟨_,_,by simp only[cutV,hdl];rfl⟩;have hr:=hex (.tuple #[]) w (by rw[hc1,hl0];cases ad<;>simp[Builtin.clear_,run_underlying ht]);simp only[Does,hr];refine⟨undef,Step.refl _ _,QbQ (λk hk=>⟨.inl (Qak.2 hk),hM k (hfp k hk)⟩) ?_,trivial⟩;have hxx:xs.take lo.toNat++replicate ys.length x0=xs:=by rw[hl0,replicate_zero,Yd,ZI (by omega)]
   rw[hxx];refine Atom.keep _ (λk hk=>?_) (λ_ _=>rfl) (λ_ _=>rfl) ho;refine QcF (Zp _) hgiv (λB hB j hj=>?_) hk;obtain rfl:=Zg.1 hB;exact .inl (Qak.2 hj)
  ·have hk1:=QqQ (m:=R.n) (b:=b) (n:=xs.length) hs hlc hy;obtain⟨vs,hvs⟩:∃vs,vs=(Builtin.zeroCells z.cells ys.length).toList:=⟨_,rfl⟩;have hfl:vs=(replicate ys.length z.cells.toList).flatten:=by rw[hvs,Qud]
   have hzn:z.cells.toList.length=R.n:=by simpa using hz.zc
   have hnl:vs.length=ys.length * R.n:=by rw[hfl];simp[length_flatten,hz.zc]
   have hcells:QW ((replicate ys.length x0).flatMap R.cs) (free M w) w vs:=by
    obtain⟨hc1,_,_⟩:=Qcn (hz0 (free M w) w);have e:(replicate ys.length x0).flatMap R.cs=(replicate ys.length (R.cs x0)).flatten:=by rw[flatMap_def,map_replicate]
    rw[e,hfl];refine⟨by simp[length_flatten,R.len,hz.zc],λj T u hT hu=>?_⟩;rw[QnM] at hT hu;split at hT
    ·rename_i hj;rw[Ze (by rw[hzn];rwa [R.len] at hj)] at hu;rw[R.len] at hT;rw[hzn] at hu;exact hc1.2 _ T u hT hu
    ·cases hT
   have hone:∀u∈vs,u.oneCell'=true:=by obtain⟨_,h2,_⟩:=Qcn (hz0 (free M w) w);intro u hu;rw[hfl] at hu;obtain⟨l,hl,hul⟩:=mem_flatten.1 hu;rw[eq_of_mem_replicate hl] at hul;exact h2 u hul
   have hxn:(lo.toNat+ys.length) * R.n<=xs.length * R.n:=Nat.mul_le_mul_right _ (by omega);rw[Nat.add_mul] at hxn;have hcapn:xs.length * R.n<=cap * R.n:=Nat.mul_le_mul_right _ hlc;have hst:=run_storeCells_at P b (lo.toNat * R.n) e vs 0 cur w hbk (by rw[hnl];omega) hone;simp only[Nat.add_zero] at hst;obtain⟨n1,hn1⟩:∃n1,ys.length=n1+1:=⟨ys.length - 1,by have:=length_pos_iff.2 hy;omega⟩;have hr:=hex (.tuple #[]) (w.setRow b (splice cur.toList (lo.toNat * R.n) vs).toArray) (by rw[hk1,hn1];rw[hvs,hn1] at hst;rw[hvs,hn1];simp only[Builtin.clear_,getElem?_toArray,getElem?_cons_zero,Sem.run_bind,run_underlying ht,Zj,hzr,hst,Sem.run_pure,splice]);simp only[Does,hr];have heat:∀k,Qay [own R e xs (.slice (some ⟨b,0,none⟩) xs.length cap)] k↔k=b:=λk=>by rw[Qak,Qbz]
   refine⟨undef,Qfo ((heat b).2 rfl),QbQ (λk hk=>?_) ?_,trivial⟩
   ·rw[Qbz] at hk;rw[hk];exact⟨.inl ((heat b).2 rfl),by simpa using (Array.getElem?_eq_some_iff.1 hbk).1⟩
   ·have key:∀F',(∀k,free M w k->F' k)->(own R e (xs.take lo.toNat++replicate ys.length x0) (.slice (some ⟨b,0,none⟩) (xs.take lo.toNat++replicate ys.length x0).length cap)).ok F' (w.setRow b (splice cur.toList (lo.toNat * R.n) vs).toArray):=?key
    ·have:=key _ (λk hk=>QcF (w':=w.setRow b (splice cur.toList (lo.toNat * R.n) vs).toArray) (N:=[own R e (xs.take lo.toNat++replicate ys.length x0) (.slice (some ⟨b,0,none⟩) xs.length cap)]) (by simp) hgiv (λB hB j hj=>by
      obtain rfl:=Zg.1 hB;rw[Qbz] at hj;exact .inl ((heat j).2 hj)) hk)
     rw[hyl] at this;exact this
    intro F' hF';refine QhK (cur:=(splice cur.toList (lo.toNat * R.n) vs).toArray) (setRow_heap w b cur _ e _ hbk) (by rw[hyl];exact hlc) hmx (by rw[size_toArray,Qf4 _ _ _ (by rw[hnl];simp;omega)];simpa using hcs) ?_;rw[hyl];have e1:(splice cur.toList (lo.toNat * R.n) vs).take (xs.length * R.n)=splice (cur.toList.take (xs.length * R.n)) (lo.toNat * R.n) vs:=by
     apply ext_getElem?;intro j;rw[getElem?_take,Qb3 _ _ _ _ (by simp;omega),Qb3 _ _ _ _ (by simp;omega),getElem?_take];by_cases hj:j<xs.length * R.n
     ·rw[Ze hj,Ze hj]
     ·rw[Zb hj,Zb hj,Zb (by omega)]
    simp only;rw[e1];have e2:(xs.take lo.toNat++replicate ys.length x0).flatMap R.cs=splice (xs.flatMap R.cs) (lo.toNat * R.n) ((replicate ys.length x0).flatMap R.cs):=by have t1:=Row.Xr R xs 0 lo.toNat (by omega);simp only[drop_zero,Nat.zero_mul] at t1;rw[ZN,t1];unfold splice;rw[drop_of_length_le (l:=xs.flatMap R.cs) (by rw[QaF,QaF,Ym,<-Nat.add_mul];exact Nat.mul_le_mul_right _ (by omega)),Yd]
    rw[e2];exact (hcl.splice hcells (by rw[QaF,QaF,Ym];omega)).Xq hF' (λk hk=>setRow_other w b k _ (λe=>hk.2 (hgiv k ((heat k).2 e))))
def QvX {xs ys:List α} {hi:Int} {F:Blk} {w:World} (hs:sub xs 0 hi=some ys) (h:(own R e xs v).ok F w):(own R e ys (cutV R.n v 0 hi)).ok F w:=by
 rcases Qa8 h with⟨hv,hxs⟩ | ⟨b,cap,cur,hv,_⟩
 ·subst hv;subst hxs;obtain⟨a1,rfl⟩:=Qo9 (m:=R.n) hs;rw[a1];exact QlG
 ·obtain⟨_,_,c2,hya,_⟩:=QgX hs;subst hv;rw[QpF,hya];simp only[Int.toNat_zero,drop_zero,Nat.sub_zero];exact QsR h c2
def Qxe {xs:List α} {hi:Int} {ys:List α} {F:Blk} {w:World} (hs:sub xs 0 hi=some ys) (h:(own R e xs v).ok F w) (k:Nat):(own R e ys (cutV R.n v 0 hi)).fp k↔(own R e xs v).fp k:=by
 rcases Qa8 h with⟨hv,hxs⟩ | ⟨b,cap,cur,hv,_⟩
 ·subst hv;subst hxs;obtain⟨a1,rfl⟩:=Qo9 (m:=R.n) hs;rw[a1]
 ·subst hv;rw[QpF,Qbz,Qbz]
end
section
variable {M:Fr} {w0 w:World} {n:Nat} {Γ:List (Nat×Ty)} {As:List Atom} {a:Act}
def St.swapA {A B:Atom} (h:St M w0 n Γ (A::As) a w) (hfp:∀k,B.fp k->A.fp k) (hok:∀F,(∀k,free (hold M.m (A::As)) w k->F k)->A.ok (free (hold M.m (A::As)) w) w->B.ok F w):St M w0 n Γ (B::As) a w:=by
 have hf:∀j,fps (B::As) j->fps (A::As) j:=by
  rintro j ⟨Z,hZ,hj⟩;rcases Zm.1 hZ with rfl | hZ
  ·exact⟨A,by simp,hfp j hj⟩
  ·exact⟨Z,by simp[hZ],hj⟩
 refine⟨h.size,h.defers,h.grow,h.m0,?_,?_,?_,λp hp=>p.2.keep (Qbq hf) (λ_ _=>rfl) (h.Xo p hp)⟩
 ·intro Z hZ;rcases Zm.1 hZ with rfl | hZ
  ·exact hok _ (Qbq hf) (h.own A (by simp))
  ·exact Z.keep (Qbq hf) (λ_ _=>rfl) (λ_ _=>rfl) (h.own Z (by simp[hZ]))
 ·intro Z hZ k hk;rcases Zm.1 hZ with rfl | hZ
  ·exact h.fresh A (by simp) k (hfp k hk)
  ·exact h.fresh Z (by simp[hZ]) k hk
 ·have ha:=pairwise_cons.1 h.apart;exact pairwise_cons.2 ⟨λZ hZ k hk=>ha.1 Z hZ k (hfp k hk),ha.2⟩
def St.cut0 {α:Type} {R:Rep α} {e:TypeId} {xs ys:List α} {v:Value} {hi:Int} (hs:Sim.sub xs 0 hi=some ys) (h:St M w0 n Γ (Sim.own R e xs v::As) a w):St M w0 n Γ (Sim.own R e ys (cutV R.n v 0 hi)::As) a w:=by have ho:=h.own (Sim.own R e xs v) (by simp);exact h.swapA (λk hk=>(Qxe hs ho k).1 hk) (λF hF h0=>QvX hs ((Sim.own R e xs v).keep hF (λ_ _=>rfl) (λ_ _=>rfl) h0))
end
end Go.Sim
namespace Go.Sim
section
variable {M:Fr} {w0:World} {n:Nat} {Γ:List (Nat×Ty)} {As l:List Atom} {a:Act} {w:World}
def QvY:fps (QaV l::As)=fps (l++As):=by
 funext k
 apply propext;constructor
 ·rintro ⟨A,hA,hk⟩;rcases Zm.1 hA with rfl | hA
  ·obtain⟨B,hB,hk⟩:=hk;exact⟨B,mem_append_left _ hB,hk⟩
  ·exact⟨A,mem_append_right _ hA,hk⟩
 ·rintro ⟨A,hA,hk⟩;rcases ZH.1 hA with hA | hA
  ·exact⟨QaV l,by simp,A,hA,hk⟩
  ·exact⟨A,Zy _ hA,hk⟩
def QpL {m:Blk}:hold m (QaV l::As)=hold m (l++As):=by unfold hold;rw[QvY]
def St.unjoin (h:St M w0 n Γ (QaV l::As) a w):St M w0 n Γ (l++As) a w:=by
 have hj:=h.own (QaV l) (by simp);have hap:=pairwise_cons.1 h.apart;have hh:hold M.m (QaV l::As)=hold M.m (l++As):=QpL;refine⟨h.size,h.defers,h.grow,h.m0,?_,?_,?_,by rw[<-hh];exact h.Xo⟩
 ·rw[<-hh];intro A hA;rcases ZH.1 hA with hA | hA
  ·exact hj.1 A hA
  ·exact h.own A (Zy _ hA)
 ·intro A hA k hk;rcases ZH.1 hA with hA | hA
  ·exact h.fresh (QaV l) (by simp) k ⟨A,hA,hk⟩
  ·exact h.fresh A (Zy _ hA) k hk
 ·exact pairwise_append.2 ⟨hj.2,hap.2,λA hA B hB k hk hkB=>hap.1 B hB k ⟨A,hA,hk⟩ hkB⟩
def St.join (h:St M w0 n Γ (l++As) a w):St M w0 n Γ (QaV l::As) a w:=by
 obtain⟨h1,h2,h3⟩:=pairwise_append.1 h.apart;have hh:hold M.m (QaV l::As)=hold M.m (l++As):=QpL;refine⟨h.size,h.defers,h.grow,h.m0,?_,?_,?_,by rw[hh];exact h.Xo⟩
 ·rw[hh];intro A hA;rcases Zm.1 hA with rfl | hA
  ·exact⟨λB hB=>h.own B (mem_append_left _ hB),h1⟩
  ·exact h.own A (mem_append_right _ hA)
 ·intro A hA k hk;rcases Zm.1 hA with rfl | hA
  ·obtain⟨B,hB,hk⟩:=hk;exact h.fresh B (mem_append_left _ hB) k hk
  ·exact h.fresh A (mem_append_right _ hA) k hk
 ·refine pairwise_cons.2 ⟨λB hB k hk hkB=>?_,h2⟩;obtain⟨A,hA,hk⟩:=hk;exact h3 A hA B hB k hk hkB
def St.join0 (h:St M w0 n Γ As a w):St M w0 n Γ (QaV []::As) a w:=St.join (l:=[]) h
def St.take {l1 l2:List Atom} {A:Atom} (h:St M w0 n Γ (QaV (l1++A::l2)::As) a w):St M w0 n Γ (A::QaV (l1++l2)::As) a w:=by have h2:=h.unjoin;have h3:St M w0 n Γ ((l1++l2)++(A::As)) a w:=h2.perm (by rw[ZC,ZC];exact Perm.append_left _ ((perm_middle (l₁:=l2) (l₂:=As) (a:=A)).symm));exact (St.join h3).perm (Perm.swap _ _ _)
def St.give {l1 l2:List Atom} {A:Atom} (h:St M w0 n Γ (A::QaV (l1++l2)::As) a w):St M w0 n Γ (QaV (l1++A::l2)::As) a w:=by have h2:St M w0 n Γ (QaV (l1++l2)::A::As) a w:=h.perm (Perm.swap _ _ _);have h3:=h2.unjoin;refine St.join (h3.perm ?_);rw[ZC,ZC];exact Perm.append_left _ (perm_middle (l₁:=l2) (l₂:=As) (a:=A))
end
section
variable {M:Fr} {w0:World} {n:Nat} {Γ:List (Nat×Ty)} {As:List Atom} {a:Act} {w:World} {α β:Type} {R:Rep α} {R2:Rep β} {k:Nat} {e e2:TypeId} {v q:Value} {i:Int} {u:α} {ys:List β} {xs:List (α×Option Value)}
def St.split {l1 l2:List Atom} (h:St M w0 n Γ (QaV (l1++l2)::As) a w):St M w0 n Γ (QaV l1::QaV l2::As) a w:=by have h2:=h.unjoin;rw[ZC] at h2;have h3:=St.join h2;have h4:St M w0 n Γ (l2++QaV l1::As) a w:=h3.perm perm_middle.symm;exact (St.join h4).perm (Perm.swap _ _ _)
end
end Go.Sim
namespace Go.Sim
def non {α:Type} {i:α}:(none:Option α)≠some i:=λh=>by cases h
def dh:Value->Value | .agg a=>a.getD 0 nilV | v=>v
def ds (g:Value) (i:Nat):Value:=match g with | .agg a=>a.getD (i+1) nilV | _=>nilV
def dmk (h:Value) (l:List Value):Value:=.agg (h::l).toArray
def dset (n:Nat) (g:Value) (i:Nat) (x:Value):Value:=dmk (dh g) ((range n).map λj=>if j=i then x else ds g j)
def Qe6 (n:Nat) (g:Value) (h x:Value):Value:=dmk h ((range n).map (ds g)++[x])
def Qne {h:Value} {l:List Value}:dh (dmk h l)=h:=by simp[dmk,dh]
def QkC {h:Value} {l:List Value} {i:Nat}:ds (dmk h l) i=l.getD i nilV:=by simp[dmk,ds,Array.getD_eq_getD_getElem?,Zw]
def Qiv {n:Nat} {g:Value} {i:Nat} {x:Value}:dh (dset n g i x)=dh g:=Qne
def QgZ {n:Nat} {g:Value} {i j:Nat} {x:Value} (h:j<n):ds (dset n g i x) j=if j=i then x else ds g j:=by unfold dset;rw[QkC,Zw,Yb,getElem?_range h];rfl
def QeW {n:Nat} {g:Value} {i:Nat} {x:Value} (h:i<n):ds (dset n g i x) i=x:=by rw[QgZ h,Ze rfl]
def QiS {n:Nat} {g h x:Value} {j:Nat} (hj:j<n):ds (Qe6 n g h x) j=ds g j:=by unfold Qe6;rw[QkC,Zw,ZD (by simpa using hj),Yb,getElem?_range hj];rfl
def Qli {n:Nat} {g h x:Value}:ds (Qe6 n g h x) n=x:=by unfold Qe6;rw[QkC,Zw,Zv (by simp)];simp
structure DRep (α:Type) where
 S:Rep α
 cs:α->Value->List Ty
 lo:α->Value->Atom
 len:∀x g,(cs x g).length=S.n
 one:∀x g T,T∈cs x g->∀F w v,T.ok F w v->v.oneCell'=true
 cl:∀{x:α} {g:Value} {F F':Blk} {w:World},(∀k,F k->F' k)->(lo x g).ok F w->(∀k,(lo x g).fp k->F' k)->∀(i:Nat) (T T':Ty),(cs x g)[i]?=some T->(S.cs x)[i]?=some T'->∀u,T.ok F w u->T'.ok F' w u
@[reducible] def drep {α : Type} (D : DRep α) : Rep (α × Value) := ⟨λp => D.cs p.1 p.2,D.S.n,D.S.agg,λp => D.len p.1 p.2,λp => D.one p.1 p.2,D.S.sz⟩
def zg {α:Type} (xs:List α) (g:Value):List (α×Value):=xs.zipIdx.map λp=>(p.1,ds g p.2)
section
variable {α:Type} {xs ys:List α} {g g':Value} {i:Int} {x y:α}
def QcX:(zg xs g).length=xs.length:=by simp[zg]
def QfE {j:Nat}:(zg xs g)[j]?=(xs[j]?).map λx=>(x,ds g j):=by simp only[zg,Yb,getElem?_zipIdx,Option.map_map,Nat.zero_add];rfl
def Qjl (h:idx xs i=some x):idx (zg xs g) i=some (x,ds g i.toNat):=by obtain⟨h0,_,h2⟩:=QcG h;unfold idx;rw[Ze h0,QfE,h2];rfl
def Qii (h:setAt xs i y=some ys):0<=i/\i.toNat<xs.length/\ys=xs.set i.toNat y:=by
 unfold setAt at h;split at h
 ·rename_i hc;exact⟨hc.1,by omega,(Zz h).symm⟩
 ·cases h
def QqX (hs:setAt xs i y=some ys) (hg:∀j,j<xs.length->j≠i.toNat->ds g' j=ds g j):setAt (zg xs g) i (y,ds g' i.toNat)=some (zg ys g'):=by
 obtain⟨h0,h1,rfl⟩:=Qii hs;unfold setAt;rw[Ze ⟨h0,by rw[QcX];omega⟩];congr 1;apply ext_getElem?;intro j;rw[getElem?_set,QfE (xs:=xs.set i.toNat y),getElem?_set,QcX];by_cases hj:i.toNat=j
 ·subst hj;simp[h1]
 ·rw[Zb hj,Zb hj,QfE]
  cases hx:xs[j]? with
  | none=>rfl
  | some u=>simp[hg j (Zc.1 hx).1 (λe=>hj e.symm)]
def Qnf {j:Nat} (h:(xs++[y])[j]?=some x):(xs[j]?=some x/\j<xs.length)\/(j=xs.length/\x=y):=by
 rcases Nat.lt_trichotomy j xs.length with hj | hj | hj
 ·rw[ZD hj] at h;exact .inl ⟨h,hj⟩
 ·subst hj;rw[Zv (Zp _),Nat.sub_self] at h;exact .inr ⟨rfl,(Zz h).symm⟩
 ·rw[getElem?_eq_none (by simp;omega)] at h;cases h
def Qmy (v:Value) (m:Nat):padd (QaX v m) 0=QaX v m:=by unfold QaX padd;split<;>rename_i h<;>split at h<;>simp_all[Addr.add]
def Qxf {v:Value} {gy:Value}:zg (xs++[y]) (Qe6 xs.length g v gy)=zg xs g++[(y,gy)]:=by
 apply ext_getElem?;intro j;rw[QfE];rcases Nat.lt_trichotomy j xs.length with h | h | h
 ·rw[ZD h,ZD (by rw[QcX];exact h),QfE,QiS h]
 ·subst h;rw[Zv (Zp _),Zv (by rw[QcX];exact Zp _),QcX,Qli];simp
 ·rw[getElem?_eq_none (by simp;omega),getElem?_eq_none (by simp[QcX];omega)];rfl
end
def Qaq {α:Type} (D:DRep α) (e:TypeId) (xs:List α) (g:Value) (o:Option Nat):Atom:=
 ⟨λk=>(dh g).ownBlock=some k\/∃i x,o≠some i/\xs[i]?=some x/\(D.lo x (ds g i)).fp k,
  λF w=>(own (drep D) e (zg xs g) (dh g)).ok F w/\(∀i x,o≠some i->xs[i]?=some x->(D.lo x (ds g i)).ok F w/\∀k,(D.lo x (ds g i)).fp k->¬(dh g).ownBlock=some k)/\∀i j x y,i≠j->o≠some i->o≠some j->xs[i]?=some x->xs[j]?=some y->∀k,(D.lo x (ds g i)).fp k->¬(D.lo y (ds g j)).fp k,
  λhF hh hf ⟨h1,h2,h3⟩=>⟨Atom.keep _ hF hh (λk hk=>hf k (.inl hk)) h1,λi x ho hx=>⟨Atom.keep _ hF hh (λk hk=>hf k (.inr ⟨i,x,ho,hx,hk⟩)) (h2 i x ho hx).1,(h2 i x ho hx).2⟩,h3⟩⟩
abbrev deep {α:Type} (D:DRep α) (e:TypeId) (xs:List α) (g:Value):Atom:=Qaq D e xs g none
structure Part (A B:Atom):Prop where
 ok:∀F w,B.ok F w->A.ok F w
 sub:∀k,A.fp k->B.fp k
def Part.refl {A:Atom}:Part A A:=⟨λ_ _ h=>h,λ_ h=>h⟩
def Qm6.refl {A A':Atom} (h:∀k,A'.fp k↔A.fp k):Qm6 A A' A A':=⟨λ_ _ h=>h,λ_ h=>h,h,h,λ_ _ _ _ h=>h⟩
section
variable {P:Program} {o:Oper} {Γ:List (Nat×Ty)} {U:List Atom} {T:Value->Ty} {E:List Atom} {N:Value->List Atom}
def OpJ.part {A B:Atom} (p:Part A B) (h:OpJ P o Γ (A::U) E N T):OpJ P o Γ (B::U) E N T:=h.usePart p.ok p.sub
def QbR.part {A B:Atom} {x:Operand} {T:Ty} (p:Part A B) (hB:B∈U) (h:QbR Γ [A] x T):QbR Γ U x T:=λF F' w a hF hA h0=>h F F' w a hF (λC hC=>by obtain rfl:=Zg.1 hC;exact⟨p.ok _ _ (hA B hB).1,λk hk=>(hA B hB).2 k (p.sub k hk)⟩) h0
def OpJ.over {A:Atom} {A' B':Value->Atom} (hok:∀F w,(∀C∈E,C.ok F w)->Qda E->A.ok F w) (hsub:∀k,A.fp k->Qay E k) (hfp:∀{F w},(∀C∈E,C.ok F w)->Qda E->∀x k,(B' x).fp k->(A' x).fp k\/Qay E k/\¬A.fp k)
  (hback:∀{x:Value} {F F':Blk} {w w':World},(∀C∈E,C.ok F w)->Qda E->(∀k,F k->F' k)->(∀k,F k->w'.heap[k]?=w.heap[k]?)->(∀k,Qay E k->¬A.fp k->w'.heap[k]?=w.heap[k]?)->(∀k,(A' x).fp k->Qay E k->A.fp k)->(A' x).ok F' w'->(B' x).ok F' w')
  (h:OpJ P o Γ U [A] (λx=>[A' x]) T):OpJ P o Γ U E (λx=>[B' x]) T:=by
 intro M w a hM hU hE hap hUE he;have hEM:=QdA hE;have hfp:=hfp (λC hC=>(hE C hC).1) hap;have hA:QgK M [A] w:=λC hC=>by obtain rfl:=Zg.1 hC;exact⟨hok _ _ (λB hB=>(hE B hB).1) hap,λk hk=>hEM k (hsub k hk)⟩
 refine (h M w a hM hU hA (pairwise_singleton _ _) (λC hC D hD k hk hkD=>?_) he).mono ?_
 ·obtain rfl:=Zg.1 hD;obtain⟨B,hB,hkB⟩:=hsub k hkD;exact hUE C hC B hB k hk hkB
 ·rintro v w' ⟨x,hs,hm,ht⟩;have hpl:=λk hk=>hm.place (A' x) (Zg.2 rfl) k hk;have hin:∀k,next M E [B' x] k->next M [A] [A' x] k:=by
   rintro k (⟨hk,hn⟩ | hk)
   ·exact .inl ⟨hk,λh=>hn (hsub k (Qak.1 h))⟩
   ·rcases hfp x k (Qak.1 hk) with h | ⟨h1,h2⟩
    ·exact .inr (Qak.2 h)
    ·exact .inl ⟨hEM k h1,λh=>h2 (Qak.1 h)⟩
  have hfree:∀k,free (next M [A] [A' x]) w' k->free (next M E [B' x]) w' k:=λk ⟨h1,h2⟩=>⟨h1,λh=>h2 (hin k h)⟩;have hA':∀k,(A' x).fp k->Qay E k->A.fp k:=λk hk hE'=>by
   rcases (hpl k hk).1 with h | h
   ·exact Qak.1 h
   ·have:=hM k (hEM k hE');omega
  refine⟨x,hs.mono (λk hk=>hsub k (Qak.1 hk)),QbQ (λk hk=>?_) ?_,(T x).keep hfree (λ_ _=>rfl) ht⟩
  ·rcases hfp x k hk with h | ⟨h1,_⟩
   ·exact⟨(hpl k h).1.imp (λh=>hsub k (Qak.1 h)) id,(hpl k h).2⟩
   ·exact⟨.inl h1,ZG (hM k (hEM k h1)) hs.size⟩
  ·refine hback (F:=free M w) (λC hC=>(hE C hC).1) hap (λk hk=>?_) (λk hk=>hs.same k hk.1 (λh=>hk.2 (hEM k (hsub k (Qak.1 h))))) (λk hk hn=>hs.same k (hM k (hEM k hk)) (λh=>hn (Qak.1 h))) hA' ((A' x).keep hfree (λ_ _=>rfl) (λ_ _=>rfl) (hm.ok (A' x) (Zg.2 rfl)));refine QcF hs.size hEM (λC hC j hj=>?_) hk;obtain rfl:=Zg.1 hC;rcases hfp x j hj with h | ⟨h1,_⟩
   ·exact (hpl j h).1.imp (λh=>hsub j (Qak.1 h)) id
   ·exact .inl h1
end
section
variable {α:Type} {D:DRep α} {e:TypeId} {xs ys:List α} {g g':Value} {o:Option Nat} {i:Int} {x y:α} {A A':Atom}
def Qib:Part (own (drep D) e (zg xs g) (dh g)) (Qaq D e xs g o):=⟨λ_ _ h=>h.1,λ_ h=>.inl h⟩
def Qaj (h:idx xs i=some x) (p:Part A (D.lo x (ds g i.toNat))) (ho:o≠some i.toNat:=by exact non):Part A (Qaq D e xs g o):=by obtain⟨_,_,hx⟩:=QcG h;exact⟨λF w hB=>p.ok _ _ (hB.2.1 _ _ ho hx).1,λk hk=>.inr ⟨_,_,ho,hx,p.sub k hk⟩⟩
def QkD {β γ:Type} {R:Rep β} {R':Rep γ} {bs:List β} {cs:List γ} {v:Value} (hn:R.n=R'.n) (hl:bs.length=cs.length) (hc:bs.flatMap R.cs=cs.flatMap R'.cs) {F:Blk} {w:World} (h:(own R e bs v).ok F w):(own R' e cs v).ok F w:=by obtain⟨us,ho,hcs⟩:=h;exact⟨us,by rw[<-hn,<-hl];exact ho,by rw[<-hc];exact hcs⟩
def Qhr {β γ:Type} {f:β->List Ty} {f':γ->List Ty} {bs:List β} {cs:List γ} (hl:bs.length=cs.length) (h:∀(j:Nat) b c,bs[j]?=some b->cs[j]?=some c->f b=f' c):bs.flatMap f=cs.flatMap f':=by
 induction bs generalizing cs with
 | nil=>cases cs with | nil=>rfl | cons=>cases hl
 | cons b bs ih=>
  cases cs with
  | nil=>cases hl
  | cons c cs=>rw[flatMap_cons,flatMap_cons,h 0 b c rfl rfl,ih (by simpa using hl) (λj b c hb hc=>h (j+1) b c (by simpa using hb) (by simpa using hc))]
def QcY (h:idx xs i=some x) (hs:setAt xs i y=some ys) (hf:Qm6 A A' (D.lo x (ds g i.toNat)) (D.lo y (ds g i.toNat))) (hc:D.cs y (ds g i.toNat)=D.cs x (ds g i.toNat):=by rfl) (ho:o≠some i.toNat:=by exact non):
  Qm6 A A' (Qaq D e xs g o) (Qaq D e ys g o):=by
 obtain⟨_,hlt,hx⟩:=QcG h;obtain⟨_,_,rfl⟩:=Qii hs;have hy:(xs.set i.toNat y)[i.toNat]?=some y:=getElem?_set_self hlt;have hoth:∀j,j≠i.toNat->(xs.set i.toNat y)[j]?=xs[j]?:=λj hj=>getElem?_set_ne (λe=>hj e.symm);refine⟨λF w hB=>hf.ok _ _ (hB.2.1 _ _ ho hx).1,λk hk=>.inr ⟨_,_,ho,hx,hf.sub k hk⟩,hf.fpA,λk=>?_,?_⟩
 ·constructor
  ·rintro (hk | ⟨j,z,hj,hz,hk⟩)
   ·exact .inl hk
   ·by_cases hji:j=i.toNat
    ·subst hji;rw[hy] at hz;cases hz;exact .inr ⟨_,_,ho,hx,(hf.fpB k).1 hk⟩
    ·rw[hoth j hji] at hz;exact .inr ⟨j,z,hj,hz,hk⟩
  ·rintro (hk | ⟨j,z,hj,hz,hk⟩)
   ·exact .inl hk
   ·by_cases hji:j=i.toNat
    ·subst hji;rw[hx] at hz;cases hz;exact .inr ⟨_,_,ho,hy,(hf.fpB k).2 hk⟩
    ·exact .inr ⟨j,z,hj,by rw[hoth j hji];exact hz,hk⟩
 ·rintro F F' w w' ⟨h1,h2,h3⟩ hF hh hn hA';refine⟨?_,λj z hj hz=>?_,λj l z u hjl hj hl hz hu k hk=>?_⟩
  ·refine Atom.keep _ hF hh (λk hk=>hn k (.inl hk) (λhA=>(h2 _ _ ho hx).2 k (hf.sub k hA) hk)) (QkD rfl (by rw[QcX,QcX,ZS]) (Qhr (by rw[QcX,QcX,ZS]) (λj b c hb hc'=>?_)) h1);rw[QfE] at hb hc';by_cases hji:j=i.toNat
   ·subst hji;rw[hx] at hb;rw[hy] at hc';cases hb;cases hc';exact hc.symm
   ·rw[hoth j hji,hb] at hc';cases hc';rfl
  ·by_cases hji:j=i.toNat
   ·subst hji;rw[hy] at hz;cases hz;refine⟨hf.back (h2 _ _ ho hx).1 hF hh (λk hk hA=>hn k (.inr ⟨_,_,ho,hx,hk⟩) hA) hA',λk hk=>(h2 _ _ ho hx).2 k ((hf.fpB k).1 hk)⟩
   ·rw[hoth j hji] at hz;exact⟨Atom.keep _ hF hh (λk hk=>hn k (.inr ⟨j,z,hj,hz,hk⟩) (λhA=>h3 j _ z x hji hj ho hz hx k hk (hf.sub k hA))) (h2 j z hj hz).1,(h2 j z hj hz).2⟩
  ·by_cases hji:j=i.toNat
   ·subst hji;rw[hy] at hz;cases hz;have hli:l≠i.toNat:=λe=>hjl e.symm;rw[hoth l hli] at hu;exact h3 _ l x u hjl ho hl hx hu k ((hf.fpB k).1 hk)
   ·rw[hoth j hji] at hz;by_cases hli:l=i.toNat
    ·subst hli;rw[hy] at hu;cases hu;exact λhk2=>h3 j _ z x hji hj ho hz hx k hk ((hf.fpB k).1 hk2)
    ·rw[hoth l hli] at hu;exact h3 j l z u hjl hj hl hz hu k hk
def Qmz (hl:ys.length=xs.length) (hg:dh g'=dh g) (hsame:∀(j:Nat) x y,o≠some j->xs[j]?=some x->ys[j]?=some y->D.lo y (ds g' j)=D.lo x (ds g j)):
  Qm6 (own (drep D) e (zg xs g) (dh g)) (own (drep D) e (zg ys g') (dh g)) (Qaq D e xs g o) (Qaq D e ys g' o):=by
 have hxy:∀(j:Nat) y,ys[j]?=some y->∃x,xs[j]?=some x:=λj y hy=>⟨_,Zf (by have:=(Zc.1 hy).1;omega)⟩;have hyx:∀(j:Nat) x,xs[j]?=some x->∃y,ys[j]?=some y:=λj x hx=>⟨_,Zf (by have:=(Zc.1 hx).1;omega)⟩;refine⟨λF w h=>h.1,λk hk=>.inl hk,λk=>Iff.rfl,λk=>?_,?_⟩
 ·constructor
  ·rintro (hk | ⟨j,y,hj,hy,hk⟩)
   ·exact .inl (hg▸hk)
   ·obtain⟨x,hx⟩:=hxy j y hy;exact .inr ⟨j,x,hj,hx,hsame j x y hj hx hy▸hk⟩
  ·rintro (hk | ⟨j,x,hj,hx,hk⟩)
   ·exact .inl (hg.symm▸hk)
   ·obtain⟨y,hy⟩:=hyx j x hx;exact .inr ⟨j,y,hj,hy,(hsame j x y hj hx hy).symm▸hk⟩
 ·rintro F F' w w' ⟨h1,h2,h3⟩ hF hh hn hA';refine⟨hg.symm▸hA',λj y hj hy=>?_,λj l y z hjl hj hl hy hz k hk=>?_⟩
  ·obtain⟨x,hx⟩:=hxy j y hy;rw[hsame j x y hj hx hy,hg];exact⟨Atom.keep _ hF hh (λk hk=>hn k (.inr ⟨j,x,hj,hx,hk⟩) (λhA=>(h2 j x hj hx).2 k hk hA)) (h2 j x hj hx).1,(h2 j x hj hx).2⟩
  ·obtain⟨x,hx⟩:=hxy j y hy;obtain⟨u,hu⟩:=hxy l z hz;rw[hsame j x y hj hx hy] at hk;rw[hsame l u z hl hu hz];exact h3 j l x u hjl hj hl hx hu k hk
end
def Qng {α:Type} {R:Rep α} {e:TypeId} {xs:List α} {v:Value} {F F':Blk} {w:World} (hF:∀k,F k->F' k) (h:(own R e xs v).ok F w) (hfp:∀k,(own R e xs v).fp k->F' k):(tsl R xs).ok F' w v:=QbR.own (x:=.tmp 0) (Γ:=[(0,tv v)]) (U:=[own R e xs v]) (R:=R) (e:=e) (xs:=xs) (v:=v) (Fct.t 0 rfl) (by simp) F F' w ⟨#[v],[]⟩ hF (λA hA=>by simp at hA;subst hA;exact⟨h,hfp⟩) (λp hp _=>by simp at hp;subst hp;rfl)
def QnN {α:Type} {D:DRep α} {e:TypeId} {xs:List α} {g:Value} {F F':Blk} {w:World} (hF:∀k,F k->F' k) (h:(deep D e xs g).ok F w) (hfp:∀(i:Nat) x,xs[i]?=some x->∀k,(D.lo x (ds g i)).fp k->F' k):(own D.S e xs (dh g)).ok F' w:=by
 obtain⟨⟨us,ho,hc⟩,h2,h3⟩:=h;rw[QcX] at ho;have hl:(xs.flatMap D.S.cs).length=((zg xs g).flatMap (drep D).cs).length:=by rw[QaF D.S,QaF (drep D),QcX]
 refine⟨us,ho,by rw[hc.1,hl],λj T u hT hu=>?_⟩;have hlt:=(Zc.1 hT).1;rw[QaF] at hlt;have hn:0<D.S.n:=by
  rcases Nat.eq_zero_or_pos D.S.n with h | h
  ·rw[h] at hlt;omega
  ·exact h
 have hq:j / D.S.n<xs.length:=Nat.div_lt_of_lt_mul (by rw[Nat.mul_comm];exact hlt);have hr:j % D.S.n<D.S.n:=Nat.mod_lt _ hn;have hj:j=j / D.S.n * D.S.n+j % D.S.n:=by rw[Nat.mul_comm];exact (Nat.div_add_mod ..).symm
 have hx:xs[j / D.S.n]?=some xs[j / D.S.n]:=Zf hq;have hz:(zg xs g)[j / D.S.n]?=some (xs[j / D.S.n],ds g (j / D.S.n)):=by rw[QfE,hx];rfl
 rw[hj] at hT;have e1:=Qek D.S xs (j / D.S.n) (j % D.S.n) _ hx hr;rw[e1] at hT;have e2:=Qek (drep D) (zg xs g) (j / D.S.n) (j % D.S.n) _ hz hr;have hT0:j % D.S.n<(D.cs xs[j / D.S.n] (ds g (j / D.S.n))).length:=by rw[D.len];exact hr
 have e3:((zg xs g).flatMap (drep D).cs)[j]?=some ((D.cs xs[j / D.S.n] (ds g (j / D.S.n)))[j % D.S.n]):=by
  conv=>lhs;rw[hj]
  exact e2.trans (Zf hT0)
 have:=hc.2 j _ u e3 hu;obtain⟨h4,h5⟩:=h2 (j / D.S.n) _ non hx;exact D.cl hF h4 (hfp _ _ hx) _ _ _ (Zf hT0) hT u this
def Qj7 {α:Type} {D:DRep α} {e:TypeId} {xs:List α} {g:Value} {F F':Blk} {w:World} (hF:∀k,F k->F' k) (h:(deep D e xs g).ok F w) (hfp:∀k,(deep D e xs g).fp k->F' k):(tsl D.S xs).ok F' w (dh g):=Qng (λ_ h=>h) (QnN hF h (λi x hx k hk=>hfp k (.inr ⟨i,x,non,hx,hk⟩))) (λk hk=>hfp k (.inl hk))
structure Flat (A B:Atom):Prop where
 fp:∀k,B.fp k->A.fp k
 ok:∀{F F':Blk} {w:World},(∀k,F k->F' k)->A.ok F w->(∀k,A.fp k->¬B.fp k->F' k)->B.ok F' w
def Flat.refl {A:Atom}:Flat A A:=⟨λ_ h=>h,λhF h _=>A.keep hF (λ_ _=>rfl) (λ_ _=>rfl) h⟩
def flat_own' {α:Type} {D:DRep α} {e:TypeId} {xs:List α} {g:Value}:Flat (deep D e xs g) (own D.S e xs (dh g)):=⟨λ_ hk=>.inl hk,λhF h hfp=>QnN hF h (λi x hx k hk=>hfp k (.inr ⟨i,x,non,hx,hk⟩) ((h.2.1 i x non hx).2 k hk))⟩
def Que {α:Type} {D D':DRep α} {e:TypeId} {xs:List α} {g:Value} {o:Option Nat} (hn:D.S.n=D'.S.n) (hc:∀x g,D.cs x g=D'.cs x g) (hl:∀x g,Flat (D.lo x g) (D'.lo x g)):Flat (Qaq D e xs g o) (Qaq D' e xs g o):=by
 refine⟨λk hk=>?_,λ{F F' w} hF h hfp=>?_⟩
 ·rcases hk with hk | ⟨j,x,hj,hx,hk⟩
  ·exact .inl hk
  ·exact .inr ⟨j,x,hj,hx,(hl x _).fp k hk⟩
 ·obtain⟨h1,h2,h3⟩:=h;have hnot:∀(j:Nat) x,o≠some j->xs[j]?=some x->∀k,(D.lo x (ds g j)).fp k->¬(D'.lo x (ds g j)).fp k->F' k:=λj x hj hx k hk hn=>hfp k (.inr ⟨j,x,hj,hx,hk⟩) (by
   rintro (hk2 | ⟨i,y,hi,hy,hk2⟩)
   ·exact (h2 j x hj hx).2 k hk hk2
   ·by_cases hij:i=j
    ·subst hij;rw[hx] at hy;cases hy;exact hn hk2
    ·exact h3 i j y x hij hi hj hy hx k ((hl y _).fp k hk2) hk)
  refine⟨?_,λj x hj hx=>⟨(hl x _).ok hF (h2 j x hj hx).1 (hnot j x hj hx),λk hk=>(h2 j x hj hx).2 k ((hl x _).fp k hk)⟩,λi j x y hij hi hj hx hy k hk hk2=>h3 i j x y hij hi hj hx hy k ((hl x _).fp k hk) ((hl y _).fp k hk2)⟩;exact Atom.keep _ hF (λ_ _=>rfl) (λ_ _=>rfl) (QkD (R:=drep D) (R':=drep D') hn rfl (Qhr rfl (λj b c hb hc'=>by rw[hb] at hc';cases hc';exact hc b.1 b.2)) h1)
def QqY {α:Type} {D:DRep α} {e:TypeId} {xs:List α} {g:Value} {o:Option Nat} {F:Blk} {w:World} (h:(Qaq D e xs g o).ok F w):(dh g).oneCell'=true:=Qdo h.1
def QbR.deep {α:Type} {D:DRep α} {e:TypeId} {xs:List α} {g:Value} {Γ:List (Nat×Ty)} {U:List Atom} {x:Operand} (h:Fct Γ x (tv (dh g))) (hU:Sim.deep D e xs g∈U):QbR Γ U x (tsl D.S xs):=λF F' w a hF hA h0=>by have hv:a.eval x=dh g:=h F w a h0;rw[hv];exact Qj7 hF (hA _ hU).1 (hA _ hU).2
def QkE {T:Ty} {l:List Ty} {i:Nat} {T':Ty} (h:[T][i]?=some T'):T'=T/\i=0:=by
 cases i with
 | zero=>exact⟨(Zz h).symm,rfl⟩
 | succ i=>simp at h
@[reducible] def dOwn {α : Type} (R : Rep α) (e : TypeId) : DRep (List α) :=
 ⟨rSl R,λ_ g=>[tvs (dh g)],λys g=>own R e ys (dh g),λ_ _=>rfl,λ_ g T h F w v hv=>by simp at h;subst h;exact QU F w v hv,λhF h hfp i T T' hT hT' u hu=>by obtain⟨rfl,rfl⟩:=QkE (l:=[]) hT;obtain⟨rfl,_⟩:=QkE (l:=[]) hT';rw[hu.1];exact Qng hF h hfp⟩
@[reducible] def dRow {α : Type} (D : DRep α) (e : TypeId) : DRep (List α) :=
 ⟨rSl D.S,λ_ g=>[tvs (dh g)],λys g=>deep D e ys g,λ_ _=>rfl,λ_ g T h F w v hv=>by simp at h;subst h;exact QU F w v hv,λhF h hfp i T T' hT hT' u hu=>by obtain⟨rfl,rfl⟩:=QkE (l:=[]) hT;obtain⟨rfl,_⟩:=QkE (l:=[]) hT';rw[hu.1];exact Qj7 hF h hfp⟩
@[reducible] def dFld {α β : Type} (R : Rep α) (k : Nat) (get : α -> β) (L : DRep β) (h1 : L.S.n = 1) (hg : ∀ x,(R.cs x)[k]? = (L.S.cs (get x))[0]?) : DRep α :=
 ⟨R,λx g=>(R.cs x).set k ((L.cs (get x) g).headD tany),λx g=>L.lo (get x) g,λx g=>by rw[ZS,R.len],
  λx g T h F w v hv=>by
   rcases mem_or_eq_of_mem_set h with h | h
   ·exact R.one x T h F w v hv
   ·have hl:=L.len (get x) g;rw[h1] at hl
    cases hc:L.cs (get x) g with
    | nil=>rw[hc] at hl;cases hl
    | cons T0 l=>rw[hc] at h;subst h;exact L.one (get x) g _ (by rw[hc];exact Zl ..) F w v hv,
  λ{x g F F' w} hF h hfp i T T' hT hT' u hu=>by
   by_cases hik:k=i
   ·subst hik;have hl:=L.len (get x) g;rw[h1] at hl;have hk:k<(R.cs x).length:=(Zc.1 hT').1;rw[getElem?_set_self hk] at hT
    cases hc:L.cs (get x) g with
    | nil=>rw[hc] at hl;cases hl
    | cons T0 l=>rw[hc] at hT;refine L.cl hF h hfp 0 T T' ?_ ((hg x).symm.trans hT') u hu;rw[hc];exact hT
   ·rw[getElem?_set_ne hik,hT'] at hT;obtain rfl:=Zz hT;exact T'.keep hF (λ_ _=>rfl) hu⟩
@[reducible] def Qqr {α β γ : Type} (R : Rep α) (k l : Nat) (get : α -> β) (get2 : α -> γ) (L : DRep β) (L2 : DRep γ) (h1 : L.S.n = 1) (h2 : L2.S.n = 1) (hg : ∀ x,(R.cs x)[k]? = (L.S.cs (get x))[0]?) (hg2 : ∀ x,(R.cs x)[l]? = (L2.S.cs (get2 x))[0]?) : DRep α :=
 ⟨R,λx g=>((R.cs x).set k ((L.cs (get x) (ds g 0)).headD tany)).set l ((L2.cs (get2 x) (ds g 1)).headD tany),λx g=>QaV [L.lo (get x) (ds g 0),L2.lo (get2 x) (ds g 1)],λx g=>by rw[ZS,ZS,R.len],
  λx g T h F w v hv=>by
   rcases mem_or_eq_of_mem_set h with h | h
   ·exact (dFld R k get L h1 hg).one x (ds g 0) T h F w v hv
   ·have hl:=L2.len (get2 x) (ds g 1);rw[h2] at hl
    cases hc:L2.cs (get2 x) (ds g 1) with
    | nil=>rw[hc] at hl;cases hl
    | cons T0 m=>rw[hc] at h;subst h;exact L2.one (get2 x) (ds g 1) _ (by rw[hc];exact Zl ..) F w v hv,
  λ{x g F F' w} hF h hfp i T T' hT hT' u hu=>by
   by_cases hil:l=i
   ·subst hil;have hl:=L2.len (get2 x) (ds g 1);rw[h2] at hl;have hk:l<((R.cs x).set k ((L.cs (get x) (ds g 0)).headD tany)).length:=by rw[ZS];exact (Zc.1 hT').1
    rw[getElem?_set_self hk] at hT
    cases hc:L2.cs (get2 x) (ds g 1) with
    | nil=>rw[hc] at hl;cases hl
    | cons T0 m=>rw[hc] at hT;refine L2.cl hF (h.1 (L2.lo (get2 x) (ds g 1)) (by simp)) (λk hk=>hfp k ⟨L2.lo (get2 x) (ds g 1),by simp,hk⟩) 0 T T' ?_ ((hg2 x).symm.trans hT') u hu;rw[hc];exact hT
   ·rw[getElem?_set_ne hil] at hT;exact (dFld R k get L h1 hg).cl (g:=ds g 0) hF (h.1 (L.lo (get x) (ds g 0)) (by simp)) (λk hk=>hfp k ⟨L.lo (get x) (ds g 0),by simp,hk⟩) i T T' hT hT' u hu⟩
section
variable {α:Type} {D:DRep α} {e:TypeId} {xs:List α} {g g':Value} {o:Option Nat}
def Quf (hh:dh g'=dh g) (hg:∀(j:Nat) x,xs[j]?=some x->ds g' j=ds g j) (k:Nat):(Qaq D e xs g' o).fp k↔(Qaq D e xs g o).fp k:=by
 constructor
 ·rintro (hk | ⟨j,x,hj,hx,hk⟩)
  ·exact .inl (hh▸hk)
  ·exact .inr ⟨j,x,hj,hx,hg j x hx▸hk⟩
 ·rintro (hk | ⟨j,x,hj,hx,hk⟩)
  ·exact .inl (hh.symm▸hk)
  ·exact .inr ⟨j,x,hj,hx,(hg j x hx).symm▸hk⟩
def Qxg (hg:∀(j:Nat) x,xs[j]?=some x->ds g' j=ds g j):zg xs g'=zg xs g:=by
 apply ext_getElem?;intro j;rw[QfE,QfE]
 cases hx:xs[j]? with
 | none=>rfl
 | some x=>rw[ZO,ZO,hg j x hx]
def QsX (hh:dh g'=dh g) (hg:∀(j:Nat) x,xs[j]?=some x->ds g' j=ds g j) {F:Blk} {w:World}:(Qaq D e xs g' o).ok F w↔(Qaq D e xs g o).ok F w:=by
 have e1:=Qxg hg;constructor
 ·rintro ⟨h1,h2,h3⟩;refine⟨by rw[<-e1,<-hh];exact h1,λj x hj hx=>by rw[<-hg j x hx,<-hh];exact h2 j x hj hx,λi j x y hij hi hj hx hy=>by rw[<-hg i x hx,<-hg j y hy];exact h3 i j x y hij hi hj hx hy⟩
 ·rintro ⟨h1,h2,h3⟩;refine⟨by rw[e1,hh];exact h1,λj x hj hx=>by rw[hg j x hx,hh];exact h2 j x hj hx,λi j x y hij hi hj hx hy=>by rw[hg i x hx,hg j y hy];exact h3 i j x y hij hi hj hx hy⟩
end
section
variable {M:Fr} {w0:World} {n:Nat} {Γ:List (Nat×Ty)} {As:List Atom} {a:Act} {w:World} {α:Type} {D:DRep α} {e:TypeId} {xs ys:List α} {g g2:Value} {i:Int} {x y:α}
def St.openD (hi:idx xs i=some x) (h:St M w0 n Γ (deep D e xs g::As) a w):St M w0 n Γ (D.lo x (ds g i.toNat)::Qaq D e xs g (some i.toNat)::As) a w:=by
 obtain⟨_,hlt,hx⟩:=QcG hi;have h2:St M w0 n Γ (QaV [D.lo x (ds g i.toNat),Qaq D e xs g (some i.toNat)]::As) a w:=by
  refine h.swapA (λk hk=>?_) (λF hF ⟨h1,h2,h3⟩=>⟨λA hA=>?_,?_⟩)
  ·obtain⟨A,hA,hk⟩:=hk;rcases Zm.1 hA with rfl | hA
   ·exact .inr ⟨_,_,non,hx,hk⟩
   ·obtain rfl:=Zg.1 hA;rcases hk with hk | ⟨j,z,hj,hz,hk⟩
    ·exact .inl hk
    ·exact .inr ⟨j,z,non,hz,hk⟩
  ·rcases Zm.1 hA with rfl | hA
   ·exact Atom.keep _ hF (λ_ _=>rfl) (λ_ _=>rfl) (h2 _ _ non hx).1
   ·obtain rfl:=Zg.1 hA;exact Atom.keep _ hF (λ_ _=>rfl) (λ_ _=>rfl) ⟨h1,λj z _ hz=>h2 j z non hz,λj l z u hjl _ _ hz hu=>h3 j l z u hjl non non hz hu⟩
  ·refine pairwise_cons.2 ⟨λB hB k hk hkB=>?_,pairwise_singleton _ _⟩;obtain rfl:=Zg.1 hB;rcases hkB with hkB | ⟨j,z,hj,hz,hkB⟩
   ·exact (h2 _ _ non hx).2 k hk hkB
   ·exact h3 i.toNat j x z (λe=>hj (Zu some e)) non non hx hz k hk hkB
 exact h2.unjoin
def St.shutD (hi:idx xs i=some x) (hs:setAt xs i y=some ys) (hc:D.cs y g2=D.cs x (ds g i.toNat)) (h:St M w0 n Γ (D.lo y g2::Qaq D e xs g (some i.toNat)::As) a w):St M w0 n Γ (deep D e ys (dset xs.length g i.toNat g2)::As) a w:=by
 obtain⟨_,hlt,hx⟩:=QcG hi;obtain⟨_,_,rfl⟩:=Qii hs;have hy:(xs.set i.toNat y)[i.toNat]?=some y:=getElem?_set_self hlt;have hoth:∀j,j≠i.toNat->(xs.set i.toNat y)[j]?=xs[j]?:=λj hj=>getElem?_set_ne (λe=>hj e.symm);have hgo:∀j (z:α),j≠i.toNat->xs[j]?=some z->ds (dset xs.length g i.toNat g2) j=ds g j:=λj z hj hz=>by rw[QgZ (Zc.1 hz).1,Zb hj]
 have hgi:ds (dset xs.length g i.toNat g2) i.toNat=g2:=QeW hlt;have hne:∀{j},j≠i.toNat->some i.toNat≠some j:=λhj e=>hj (Zz e).symm;have h2:St M w0 n Γ (QaV [D.lo y g2,Qaq D e xs g (some i.toNat)]::As) a w:=St.join (l:=[D.lo y g2,Qaq D e xs g (some i.toNat)]) h;refine h2.swapA (λk hk=>?_) (λF hF ⟨hA,hap⟩=>?_)
 ·rcases hk with hk | ⟨j,z,_,hz,hk⟩
  ·exact⟨_,Zy _ (Zl ..),.inl (Qiv▸hk)⟩
  ·by_cases hji:j=i.toNat
   ·subst hji;rw[hy] at hz;cases hz;rw[hgi] at hk;exact⟨_,Zl ..,hk⟩
   ·rw[hoth j hji] at hz;rw[hgo j z hji hz] at hk;exact⟨_,Zy _ (Zl ..),.inr ⟨j,z,hne hji,hz,hk⟩⟩
 ·have hlo:=hA _ (Zl ..);obtain⟨h1,h2,h3⟩:=hA _ (Zy _ (Zl ..));have hd:∀k,(D.lo y g2).fp k->¬(Qaq D e xs g (some i.toNat)).fp k:=(pairwise_cons.1 hap).1 _ (Zl ..);refine Atom.keep _ hF (λ_ _=>rfl) (λ_ _=>rfl) ⟨?_,λj z _ hz=>?_,λj l z u hjl _ _ hz hu k hk=>?_⟩
  ·rw[Qiv];refine QkD rfl (by rw[QcX,QcX,ZS]) (Qhr (by rw[QcX,QcX,ZS]) (λj b c hb hc'=>?_)) h1;rw[QfE] at hb hc';by_cases hji:j=i.toNat
   ·subst hji;rw[hx] at hb;rw[hy] at hc';cases hb;cases hc';show D.cs x _=D.cs y _;rw[hgi];exact hc.symm
   ·rw[hoth j hji] at hc'
    cases hz:xs[j]? with
    | none=>rw[hz] at hb;cases hb
    | some z=>rw[hz] at hb hc';cases hb;cases hc';show D.cs z _=D.cs z _;rw[hgo j z hji hz]
  ·rw[Qiv];by_cases hji:j=i.toNat
   ·subst hji;rw[hy] at hz;cases hz;rw[hgi];exact⟨hlo,λk hk hk2=>hd k hk (.inl hk2)⟩
   ·rw[hoth j hji] at hz;rw[hgo j z hji hz];exact h2 j z (hne hji) hz
  ·by_cases hji:j=i.toNat
   ·subst hji;rw[hy] at hz;cases hz;rw[hgi] at hk;have hli:l≠i.toNat:=λe=>hjl e.symm;rw[hoth l hli] at hu;rw[hgo l u hli hu];exact λhk2=>hd k hk (.inr ⟨l,u,hne hli,hu,hk2⟩)
   ·rw[hoth j hji] at hz;rw[hgo j z hji hz] at hk;by_cases hli:l=i.toNat
    ·subst hli;rw[hy] at hu;cases hu;rw[hgi];exact λhk2=>hd k hk2 (.inr ⟨j,z,hne hji,hz,hk⟩)
    ·rw[hoth l hli] at hu;rw[hgo l u hli hu];exact h3 j l z u hjl (hne hji) (hne hli) hz hu k hk
def St.flatA {A B:Atom} (hf:Flat A B) (h:St M w0 n Γ (A::As) a w):St M w0 n Γ (B::As) a w:=by
 have hd:=h.own A (by simp);have hap:=pairwise_cons.1 h.apart;have hin:∀j,fps (B::As) j->fps (A::As) j:=by
  rintro j ⟨Z,hZ,hj⟩;rcases Zm.1 hZ with rfl | hZ
  ·exact⟨_,Zl ..,hf.fp j hj⟩
  ·exact⟨Z,by simp[hZ],hj⟩
 refine⟨h.size,h.defers,h.grow,h.m0,λZ hZ=>?_,λZ hZ k hk=>?_,pairwise_cons.2 ⟨λZ hZ k hk=>hap.1 Z hZ k (hf.fp k hk),hap.2⟩,λp hp=>p.2.keep (Qbq hin) (λ_ _=>rfl) (h.Xo p hp)⟩
 ·rcases Zm.1 hZ with rfl | hZ
  ·refine hf.ok (Qbq hin) hd (λk hk hn=>?_);have hfr:=h.fresh _ (Zl ..) k hk;refine⟨hfr.2,?_⟩;rintro (hm | ⟨C,hC,hkC⟩)
   ·have:=h.m0 k hm;rcases hfr.1 with hb | hb
    ·exact this.2 hb
    ·omega
   ·rcases Zm.1 hC with rfl | hC
    ·exact hn hkC
    ·exact hap.1 C hC k hk hkC
  ·exact Z.keep (Qbq hin) (λ_ _=>rfl) (λ_ _=>rfl) (h.own Z (by simp[hZ]))
 ·rcases Zm.1 hZ with rfl | hZ
  ·exact h.fresh _ (Zl ..) k (hf.fp k hk)
  ·exact h.fresh Z (by simp[hZ]) k hk
def St.flatD (h:St M w0 n Γ (deep D e xs g::As) a w):St M w0 n Γ (Sim.own D.S e xs (dh g)::As) a w:=h.flatA flat_own'
def St.shareD {s:Nat} (j:Nat) (h:St M w0 n Γ (deep D e xs g::As) a w) (hi:Γ[j]?=some (s,tv (dh g))):St M w0 n ((s,tsl D.S xs)::Γ) As a w:=h.flatD.share j hi
def St.shareCD {Ts:List Ty} {q:Value} (k:Nat) (h:St M w0 n Γ (deep D e xs g::box Ts q::As) a w) (hk:Ts[k]?=some (tvs (dh g))):St M w0 n Γ (box (Ts.set k (tsl D.S xs)) q::As) a w:=h.flatD.Xl k hk
def St.shutS (hi:idx xs i=some x) (hs:setAt xs i y=some ys) (h:St M w0 n Γ (D.lo y (ds g i.toNat)::Qaq D e xs g (some i.toNat)::As) a w) (hc:D.cs y (ds g i.toNat)=D.cs x (ds g i.toNat):=by rfl):St M w0 n Γ (deep D e ys g::As) a w:=by
 have h1:=h.shutD hi hs hc;obtain⟨_,hlt,_⟩:=QcG hi;obtain⟨_,_,rfl⟩:=Qii hs;have hg:∀(j:Nat) (z:α),(xs.set i.toNat y)[j]?=some z->ds (dset xs.length g i.toNat (ds g i.toNat)) j=ds g j:=λj z hz=>by
  have hj:=(Zc.1 hz).1;rw[ZS] at hj;rw[QgZ hj];split
  ·rename_i e;rw[e]
  ·rfl
 exact h1.swapA (λk hk=>(Quf Qiv hg k).2 hk) (λF hF h0=>Atom.keep _ hF (λ_ _=>rfl) (λ_ _=>rfl) ((QsX Qiv hg).1 h0))
def St.shutN (hi:idx xs i=some x) (hs:setAt xs i y=some ys) (h:St M w0 n Γ (D.lo y g2::Qaq D e xs (dset xs.length g i.toNat g2) (some i.toNat)::As) a w) (hc:D.cs y g2=D.cs x g2:=by rfl):St M w0 n Γ (deep D e ys (dset xs.length g i.toNat g2)::As) a w:=by
 obtain⟨_,hlt,_⟩:=QcG hi;have e1:ds (dset xs.length g i.toNat g2) i.toNat=g2:=QeW hlt;have h2:St M w0 n Γ (D.lo y (ds (dset xs.length g i.toNat g2) i.toNat)::Qaq D e xs (dset xs.length g i.toNat g2) (some i.toNat)::As) a w:=by rw[e1];exact h
 exact h2.shutS hi hs (by rw[e1];exact hc)
structure Bare (D:DRep α) (x:α) (g:Value):Prop where
 ok:∀F w,(D.lo x g).ok F w
 fp:∀k,¬(D.lo x g).fp k
def St.bareD {β:Type} {R:Rep β} {us:List β} {v:Value} {l:List Value} (hn:R.n=D.S.n) (hl:us.length=xs.length) (hc:∀(j:Nat) b x,us[j]?=some b->xs[j]?=some x->R.cs b=D.cs x (l.getD j nilV)) (hb:∀(j:Nat) x,xs[j]?=some x->Bare D x (l.getD j nilV))
  (h:St M w0 n Γ (Sim.own R e us v::As) a w):St M w0 n Γ (deep D e xs (dmk v l)::As) a w:=by
 refine h.swapA (λk hk=>?_) (λF hF h0=>⟨?_,λj x _ hx=>?_,λj k x y _ _ _ hx _ m hm=>?_⟩)
 ·rcases hk with hk | ⟨j,x,_,hx,hk⟩
  ·rw[Qne] at hk;exact hk
  ·rw[QkC] at hk;exact ((hb j x hx).fp k hk).elim
 ·rw[Qne];refine QkD (R:=R) (R':=drep D) (bs:=us) (cs:=zg xs (dmk v l)) hn (by rw[QcX,hl]) (Qhr (by rw[QcX,hl]) (λj b c hb' hc'=>?_)) (Atom.keep _ hF (λ_ _=>rfl) (λ_ _=>rfl) h0);rw[QfE] at hc'
  cases hx:xs[j]? with
  | none=>rw[hx] at hc';cases hc'
  | some x=>rw[hx] at hc';cases hc';show R.cs b=D.cs x _;rw[QkC];exact hc j b x hb' hx
 ·rw[QkC];exact⟨(hb j x hx).ok _ _,λk hk=>((hb j x hx).fp k hk).elim⟩
 ·rw[QkC] at hm;exact ((hb j x hx).fp m hm).elim
def QvZ {F:Blk} {w:World}:(deep D e ([]:List α) nilV).ok F w:=⟨QlG,λj x _ hx=>by simp at hx,λi j x y _ _ _ hx=>by simp at hx⟩
def QsY {k:Nat}:¬(deep D e ([]:List α) nilV).fp k:=by
 rintro (hk | ⟨j,x,_,hx,_⟩)
 ·cases hk
 ·simp at hx
def St.nilD (D:DRep α) (e:TypeId) (h:St M w0 n Γ As a w):St M w0 n Γ (deep D e ([]:List α) nilV::As) a w:=St.swapA (A:=QaV []) (St.join0 h) (λ_ hk=>(QsY hk).elim) (λ_ _ _=>QvZ)
end
section
variable {Γ:List (Nat×Ty)} {P:Program} {d:Option Tmp} {ty:TypeId} {pos:String} {af:Array Edge} {gd:Option (Nat×Bool)} {p q:Operand} {t e e':TypeId} {bytes:Nat} {z:Value} {α β:Type} {D:DRep α} {R2:Rep β} {f:β} {xs ys:List α} {g v:Value} {o:Option Nat} {i:Int} {u u0:α} {off:Nat}
def TOk.deep {b:Nat} (h:TOk P t D.S b z):TOk P t (drep D) b z:=⟨h.d,h.i,h.zc⟩
def Fct.hdrD {y:α} {gy hv:Value} {x:Operand} (h1:D.S.n=1) (hc:D.cs y gy=[tvs hv]) (h:Fct Γ x (tsl rVal [hv])):Fct Γ x (tsl (drep D) [(y,gy)]):=h.Xn λF w v ⟨ad,cap,hv',hl,hr⟩=>⟨ad,cap,hv',hl,λ_=>by
 obtain⟨b,off,ha,hb,hrow⟩:=hr (by simp);refine⟨b,off,ha,hb,?_⟩;have e1:[(y,gy)].flatMap (drep D).cs=[hv].flatMap rVal.cs:=by show D.cs y gy++[]=[tvs hv]++[];rw[hc]
 rw[e1];exact hrow⟩
def Qlj (ht:P.underlying t=some (.slice e')) (hp:Fct Γ p (tv (dh g))):OpJ P ⟨d,.call { callee:=.builtin .len,args:=#[p],argTypes:=#[t] },ty,pos,af,gd⟩ Γ [Qaq D e xs g o] [] (λ_=>[]) (λ_=>tv (.int .i64 xs.length)):=.part Qib (QcX (xs:=xs) (g:=g)▸Qdn (R:=drep D) ht hp)
def Qal {k:IntKind} (ht:P.underlying t=some (.slice e')) (hz:TOk P e' D.S bytes z) (hp:Fct Γ p (tv (dh g))) (hi:Fct Γ q (tv (.int k i))) (h:idx xs i=some u):
  OpJ P ⟨d,.indexAddr t p q,ty,pos,af,gd⟩ Γ [Qaq D e xs g o] [] (λ_=>[]) (λ_=>tv (QaX (dh g) (i.toNat * D.S.n))):=
 .part Qib (Qar (R:=drep D) ht hz.deep hp hi (Qjl h))
def Qah {s:TypeId} {fi m:Nat} (hf:QI P s fi off) (hp:Fct Γ p (tv (QaX v m))) (hv:v=dh g) (h:idx xs i=some u):OpJ P ⟨d,.fieldAddr s p fi,ty,pos,af,gd⟩ Γ [Qaq D e xs g o] [] (λ_=>[]) (λ_=>tv (padd (QaX v m) off)):=by subst hv;exact .part Qib (Qas (R:=drep D) hf hp (Qav (Qjl h)))
def QdC {m:Nat} (hp:Fct Γ p (tv (QaX (dh g) m))) (h:idx xs i=some u):OpJ P ⟨d,.nilCheck p,ty,pos,af,gd⟩ Γ [Qaq D e xs g o] [] (λ_=>[]) (λ_=>tv (QaX (dh g) m)):=.part Qib (QdU (R:=drep D) hp (Qav (Qjl h)))
def Qg0 (hz:TOk P t rVal bytes z) (hp:Fct Γ p (tv (QaX (dh g) (i.toNat * D.S.n)))) (h:idx xs i=some u) (hc:D.cs u (ds g i.toNat)=[tvs (dh (ds g i.toNat))]:=by rfl):
  OpJ P ⟨d,.load t p,ty,pos,af,gd⟩ Γ [Qaq D e xs g o] [] (λ_=>[]) (λ_=>tv (dh (ds g i.toNat))):=
 .part Qib (Qbt (Qb0 (R:=drep D) (R2:=rVal) (f:=dh (ds g i.toNat)) (off:=0) hz (hp.Xn λ_ _ _ h=>by rw[h];exact (Qmy _ _).symm) (Qjl h) (by show [tvs _]=((D.cs u (ds g i.toNat)).drop 0).take 1;rw[hc];rfl)) (λ_ _ _ _ h=>h.1))
def QaA (hz:TOk P t R2 bytes z) (hp:Fct Γ p (tv (padd (QaX (dh g) (i.toNat * D.S.n)) off))) (h:idx xs i=some u) (hf:R2.cs f=((D.cs u (ds g i.toNat)).drop off).take (R2.cs f).length):
  OpJ P ⟨d,.load t p,ty,pos,af,gd⟩ Γ [Qaq D e xs g o] [] (λ_=>[]) (λ_=>R2.ty f):=
 .part Qib (Qb0 (R:=drep D) hz hp (Qjl h) hf)
def QjL (hz:TOk P t R2 bytes z) (hp:Fct Γ p (tv (padd (QaX (dh g) (i.toNat * D.S.n)) off))) (hx:Fct Γ q (R2.ty f)) (h0:idx xs i=some u0) (h:setAt xs i u=some ys) (hoff:off+R2.n<=D.S.n) (hu:D.cs u (ds g i.toNat)=splice (D.cs u0 (ds g i.toNat)) off (R2.cs f)) (hlo:D.lo u (ds g i.toNat)=D.lo u0 (ds g i.toNat)):
  OpJ P ⟨d,.store t p q,ty,pos,af,gd⟩ Γ [] [Qaq D e xs g o] (λ_=>[Qaq D e ys g o]) (λ_=>tany):=by
 obtain⟨_,hlt,rfl⟩:=Qii h;refine .focus (Qmz (ZS ..) rfl (λj x y _ hx hy=>?_)) (QaT (R:=drep D) (u:=(u,ds g i.toNat)) hz hp hx (Qjl h0) (QqX h (λ_ _ _=>rfl)) hoff hu);by_cases hj:j=i.toNat
 ·subst hj;rw[getElem?_set_self hlt] at hy;cases hy;rw[(QcG h0).2.2] at hx;cases hx;exact hlo
 ·rw[getElem?_set_ne (λe=>hj e.symm),hx] at hy;cases hy;rfl
def QcQ {B:Atom} {hv:Value} {g2:Value} (hB:∀F w,B.ok F w->hv.oneCell'=true) (hz:TOk P t rVal bytes z) (hp:Fct Γ p (tv (padd (QaX (dh g) (i.toNat * D.S.n)) off))) (hx:Fct Γ q (tv hv)) (h0:idx xs i=some u0) (hoff:off+1<=D.S.n) (hu:D.cs u0 g2=splice (D.cs u0 (ds g i.toNat)) off [tvs hv]):
  OpJ P ⟨d,.store t p q,ty,pos,af,gd⟩ Γ [B] [Qaq D e xs g (some i.toNat)] (λ_=>[Qaq D e xs (dset xs.length g i.toNat g2) (some i.toNat)]) (λ_=>tany):=
 .say (A:=B) (by simp) hB λh1=>by
  obtain⟨hi0,hlt,hx0⟩:=QcG h0;have hs:setAt xs i u0=some xs:=by
   unfold setAt;rw[Ze ⟨hi0,by omega⟩];congr 1;apply ext_getElem?;intro j;by_cases hj:i.toNat=j
   ·subst hj;rw[getElem?_set_self hlt,hx0]
   ·rw[getElem?_set_ne hj]
  refine (OpJ.focus (Qmz rfl Qiv (λj x y hj hx hy=>?_)) (QaT (R:=drep D) (R2:=rVal) (u:=(u0,ds (dset xs.length g i.toNat g2) i.toNat)) (u2:=hv) hz hp (hx.Xn λ_ _ _ h=>⟨h,h1⟩) (Qjl h0) (QqX hs (λj hj hne=>by rw[QgZ hj,Zb hne])) hoff ?_)).Xp (λA hA=>by cases hA)
  ·rw[hx] at hy;cases hy;rw[QgZ (Zc.1 hx).1,Zb (λe=>hj (Zu some e.symm))]
  ·show D.cs u0 _=_;rw[QeW hlt];exact hu
def QrY {B:Atom} {hv:Value} {g2:Value} (hB:∀F w,B.ok F w->hv.oneCell'=true) (hz:TOk P t rVal bytes z) (hp:Fct Γ p (tv (QaX (dh g) (i.toNat * D.S.n)))) (hx:Fct Γ q (tv hv)) (h0:idx xs i=some u0) (hoff:0+1<=D.S.n) (hu:D.cs u0 g2=splice (D.cs u0 (ds g i.toNat)) 0 [tvs hv]):
  OpJ P ⟨d,.store t p q,ty,pos,af,gd⟩ Γ [B] [Qaq D e xs g (some i.toNat)] (λ_=>[Qaq D e xs (dset xs.length g i.toNat g2) (some i.toNat)]) (λ_=>tany):=
 QcQ hB hz (hp.Xn λ_ _ _ h=>by rw[h];exact (Qmy _ _).symm) hx h0 hoff hu
def QmA {hq:Value} {Ts:List Ty} (hz:TOk P t rVal bytes z) (hp:Fct Γ p (tv hq)) (hx:Fct Γ q (tv (dh g))) (hl:1<=Ts.length):OpJ P ⟨d,.store t p q,ty,pos,af,gd⟩ Γ [Qaq D e xs g o] [box Ts hq] (λ_=>[box (splice Ts 0 (rVal.cs (dh g))) hq]) (λ_=>tany):=.say (A:=Qaq D e xs g o) (by simp) (λ_ _ h=>QqY h) λhu=>(QG (R:=rVal) (a:=dh g) (Ts:=Ts) hz hp (hx.Xn λ_ _ _ h=>⟨h,hu⟩) hl).Xp (λA hA=>by cases hA)
def QqZ {hq:Value} {Ts:List Ty} (hz:TOk P t rVal bytes z) (hp:Fct Γ p (tv (padd hq off))) (hx:Fct Γ q (tv (dh g))) (hl:off+1<=Ts.length):OpJ P ⟨d,.store t p q,ty,pos,af,gd⟩ Γ [Qaq D e xs g o] [box Ts hq] (λ_=>[box (splice Ts off (rVal.cs (dh g))) hq]) (λ_=>tany):=.say (A:=Qaq D e xs g o) (by simp) (λ_ _ h=>QqY h) λhu=>(QaL (R:=rVal) (a:=dh g) (Ts:=Ts) (off:=off) hz hp (hx.Xn λ_ _ _ h=>⟨h,hu⟩) hl).Xp (λA hA=>by cases hA)
def QnO {y:α} {gy:Value} (ht:P.underlying t=some (.slice e)) (hz:TOk P e D.S bytes z) (hb:bytes<=2048) (hx:Fct Γ p (tv (dh g))) (hy:Fct Γ q (tsl (drep D) [(y,gy)])) (h:rm (xs.length+1)=some ()):
  OpJ P ⟨d,.call { callee:=.builtin .append,args:=#[p,q],argTypes:=#[t,t] },ty,pos,af,gd⟩ Γ [] [deep D e xs g,D.lo y gy] (λv'=>[deep D e (xs++[y]) (Qe6 xs.length g v' gy)]) (λv'=>tv v'):=by
 refine OpJ.over (A:=own (drep D) e (zg xs g) (dh g)) (A':=λv'=>own (drep D) e (zg xs g++[(y,gy)]) v') (λF w h _=>(h _ (Zl ..)).1) (λk hk=>⟨_,Zl ..,.inl hk⟩) (λ{F w} h hap v' k hk=>?_) ?_ (QS (R:=drep D) ht hz.deep hb hx hy (by rw[QcX];exact h))
 ·rcases hk with hk | ⟨j,x,_,hx,hk⟩
  ·rw[show dh (Qe6 xs.length g v' gy)=v' from Qne] at hk;exact .inl hk
  ·refine .inr ?_;rcases Qnf hx with⟨hx,hj⟩ | ⟨rfl,rfl⟩
   ·rw[QiS hj] at hk;exact⟨⟨_,Zl ..,.inr ⟨j,x,non,hx,hk⟩⟩,((h _ (Zl ..)).2.1 j x non hx).2 k hk⟩
   ·rw[Qli] at hk;exact⟨⟨_,Zy _ (Zl ..),hk⟩,λh1=>(pairwise_cons.1 hap).1 _ (Zl ..) k (.inl h1) hk⟩
 ·intro v' F F' w w' h hap hF hh hn hfr hA';obtain⟨h1,h2,h3⟩:=h _ (Zl ..);have hlo:=h _ (Zy _ (Zl ..));have hd:∀k,(deep D e xs g).fp k->¬(D.lo y gy).fp k:=(pairwise_cons.1 hap).1 _ (Zl ..);have e1:dh (Qe6 xs.length g v' gy)=v':=Qne;have hin:∀{j x k},xs[j]?=some x->(D.lo x (ds g j)).fp k->(deep D e xs g).fp k:=λhx hk=>.inr ⟨_,_,non,hx,hk⟩;refine⟨by rw[e1,Qxf];exact hA',λj x _ hx=>?_,λj l x u hjl _ _ hx hu k hk=>?_⟩
  ·rw[e1];rcases Qnf hx with⟨hx,hj⟩ | ⟨rfl,rfl⟩
   ·rw[QiS hj];obtain⟨h4,h5⟩:=h2 j x non hx;exact⟨Atom.keep _ hF hh (λk hk=>hn k ⟨_,Zl ..,hin hx hk⟩ (h5 k hk)) h4,λk hk hk2=>h5 k hk (hfr k hk2 ⟨_,Zl ..,hin hx hk⟩)⟩
   ·rw[Qli];exact⟨Atom.keep _ hF hh (λk hk=>hn k ⟨_,Zy _ (Zl ..),hk⟩ (λhk2=>hd k (.inl hk2) hk)) hlo,λk hk hk2=>hd k (.inl (hfr k hk2 ⟨_,Zy _ (Zl ..),hk⟩)) hk⟩
  ·rcases Qnf hx with⟨hx1,hj⟩ | ⟨e1,e2⟩<;>rcases Qnf hu with⟨hu1,hl⟩ | ⟨e3,e4⟩
   ·rw[QiS hj] at hk;rw[QiS hl];exact h3 j l x u hjl non non hx1 hu1 k hk
   ·subst e3;subst e4;rw[QiS hj] at hk;rw[Qli];exact hd k (hin hx1 hk)
   ·subst e1;subst e2;rw[Qli] at hk;rw[QiS hl];exact λhk2=>hd k (hin hu1 hk2) hk
   ·exact (hjl (e1.trans e3.symm)).elim
def FnOk.flatD {f:FuncId} {Ts:List Ty} {T:Value->Ty} (h:FnOk P f Ts [] (λv=>[deep D e xs v]) (λv=>T (dh v))):FnOk P f Ts [] (λv=>[own D.S e xs v]) T:=by
 intro M w vs hM hE hap hc;refine Calls.mono (h M w vs hM hE hap hc) ?_;rintro en w' ⟨x,v,he,hg,hN,hty⟩;have hfp:=hN.place _ (Zg.2 rfl);have hok:=hN.ok _ (Zg.2 rfl);have hsub:∀k,free (next M [] [deep D e xs x]) w' k->free (next M [] [own D.S e xs (dh x)]) w' k:=by
  rintro k ⟨h1,h2⟩;refine⟨h1,λhm=>h2 ?_⟩;rcases hm with hm | ⟨A,hA,hk⟩
  ·exact .inl hm
  ·obtain rfl:=Zg.1 hA;exact .inr ⟨_,Zg.2 rfl,.inl hk⟩
 refine⟨dh x,v,he,hg,⟨pairwise_singleton _ _,λA hA k hk=>?_,λA hA=>?_⟩,(T (dh x)).keep hsub (λ_ _=>rfl) hty⟩
 ·obtain rfl:=Zg.1 hA;exact hfp k (.inl hk)
 ·obtain rfl:=Zg.1 hA;refine QnN hsub hok (λi z hz k hk=>⟨(hfp k (.inr ⟨i,z,non,hz,hk⟩)).2,?_⟩);rintro (⟨hm,_⟩ | ⟨A,hA,hkA⟩)
  ·have:=hM k hm;rcases (hfp k (.inr ⟨i,z,non,hz,hk⟩)).1 with h | h
   ·rw[Qej] at h;exact h
   ·omega
  ·obtain rfl:=Zg.1 hA;exact (hok.2.1 i z non hz).2 k hk hkA
end
end Go.Sim
namespace Go.Sim
def fzV:Value:=.nilFunc
def isFz (g:Value):Bool:=match g with | .nilFunc=>true | _=>false
@[reducible] def dOpt {α : Type} (L : DRep α) : DRep α :=
 ⟨L.S,λx g=>bif isFz g then L.S.cs x else L.cs x g,λx g=>bif isFz g then Atom.none else L.lo x g,
  λx g=>by cases isFz g<;>(first | exact L.len x g | exact L.S.len x),
  λx g T h F w v hv=>by
   cases hg:isFz g with
   | false=>rw[hg] at h;exact L.one x g T h F w v hv
   | true=>rw[hg] at h;exact L.S.one x T h F w v hv,
  λ{x g F F' w} hF h hfp i T T' hT hT' u hu=>by
   cases hg:isFz g with
   | false=>rw[hg] at h hT hfp;exact L.cl hF h hfp i T T' hT hT' u hu
   | true=>rw[hg] at hT;have e:T=T':=Zz (hT.symm.trans hT');subst e;exact T.keep hF (λ_ _=>rfl) hu⟩
def Qq0 {A B:Atom} (h1:A.fp=B.fp) (h2:A.ok=B.ok):A=B:=by cases A;cases B;cases h1;cases h2;rfl
def Qug {α β:Type} {R:Rep α} {R':Rep β} {e:TypeId} {xs:List α} {ys:List β} {v:Value} (hn:R.n=R'.n) (hl:xs.length=ys.length) (hc:xs.flatMap R.cs=ys.flatMap R'.cs):own R e xs v=own R' e ys v:=by
 refine Qq0 rfl ?_
 funext F w
 show (∃us,w.ownsRow 0 e R.n v xs.length us/\QW (xs.flatMap R.cs) F w us)=∃us,w.ownsRow 0 e R'.n v ys.length us/\QW (ys.flatMap R'.cs) F w us;rw[hn,hl,hc]
def Qpc {α:Type} {D D':DRep α} {e:TypeId} {xs:List α} {g:Value} {o:Option Nat} (hn:D.S.n=D'.S.n) (hc:∀(i:Nat) x,xs[i]?=some x->D.cs x (ds g i)=D'.cs x (ds g i)) (hl:∀(i:Nat) x,xs[i]?=some x->D.lo x (ds g i)=D'.lo x (ds g i)):Qaq D e xs g o=Qaq D' e xs g o:=by
 have e1:own (drep D) e (zg xs g) (dh g)=own (drep D') e (zg xs g) (dh g):=Qug hn rfl (Qhr rfl (λj b c hb hc'=>by
  rw[hb] at hc';cases hc';rw[QfE] at hb
  cases hx:xs[j]? with
  | none=>rw[hx] at hb;cases hb
  | some x=>rw[hx] at hb;cases hb;exact hc j x hx))
 have e2:(λk:Nat=>(dh g).ownBlock=some k\/∃i x,o≠some i/\xs[i]?=some x/\(D.lo x (ds g i)).fp k)=λk=>(dh g).ownBlock=some k\/∃i x,o≠some i/\xs[i]?=some x/\(D'.lo x (ds g i)).fp k:=by
  funext k
  apply propext;constructor
  ·rintro (h | ⟨i,x,h1,h2,h3⟩)
   ·exact .inl h
   ·exact .inr ⟨i,x,h1,h2,hl i x h2▸h3⟩
  ·rintro (h | ⟨i,x,h1,h2,h3⟩)
   ·exact .inl h
   ·exact .inr ⟨i,x,h1,h2,(hl i x h2).symm▸h3⟩
 have e3:(λ(F:Blk) (w:World)=>(own (drep D) e (zg xs g) (dh g)).ok F w/\(∀i x,o≠some i->xs[i]?=some x->(D.lo x (ds g i)).ok F w/\∀k,(D.lo x (ds g i)).fp k->¬(dh g).ownBlock=some k)/\
   ∀i j x y,i≠j->o≠some i->o≠some j->xs[i]?=some x->xs[j]?=some y->∀k,(D.lo x (ds g i)).fp k->¬(D.lo y (ds g j)).fp k)=
   λF w=>(own (drep D') e (zg xs g) (dh g)).ok F w/\(∀i x,o≠some i->xs[i]?=some x->(D'.lo x (ds g i)).ok F w/\∀k,(D'.lo x (ds g i)).fp k->¬(dh g).ownBlock=some k)/\
   ∀i j x y,i≠j->o≠some i->o≠some j->xs[i]?=some x->xs[j]?=some y->∀k,(D'.lo x (ds g i)).fp k->¬(D'.lo y (ds g j)).fp k:=by
  funext F w
  apply propext;rw[e1];refine and_congr Iff.rfl (and_congr ⟨λh i x hi hx=>hl i x hx▸h i x hi hx,λh i x hi hx=>(hl i x hx).symm▸h i x hi hx⟩ ⟨λh i j x y hij hi hj hx hy=>hl i x hx▸hl j y hy▸h i j x y hij hi hj hx hy,λh i j x y hij hi hj hx hy=>(hl i x hx).symm▸(hl j y hy).symm▸h i j x y hij hi hj hx hy⟩)
 exact Qq0 e2 e3
end Go.Sim
namespace Go.Sim
def fidV (o:Option Nat):Value:=match o with | none=>.nilFunc | some f=>.func (.func f) #[] #[]
@[reducible] def rFid : Rep (Option Nat) := ⟨λo => [tv (fidV o)],1,false,λ_ => rfl,λo T h F w v hv => by
 simp at h;subst h;have:v=fidV o:=hv;subst this;cases o<;>rfl,λ_=>rfl⟩
section
variable {Γ:List (Nat×Ty)} {P:Program} {d:Option Tmp} {ty:TypeId} {pos:String} {af:Array Edge} {g:Option (Nat×Bool)} {x y:Operand} {t t2:TypeId} {ps rs:Array TypeId} {va:Bool} {o:Option Nat}
def Qok (n:Nat) (ht:P.underlying t=some (.func ps rs va)) (w:World):(Op.equalIn (n+1) t (fidV o) .nilFunc).run P w=.ok o.isNone w:=by cases o<;>simp[fidV,Op.equalIn,run_underlying ht]
def Ql9 (ht:P.underlying t=some (.func ps rs va)) (w:World):(Op.equal t (fidV o) .nilFunc).run P w=.ok o.isNone w:=Qok 9999 ht w
def Qq1 (ht:P.underlying t=some (.func ps rs va)) (hx:Fct Γ x (tv (fidV o))):OpJ P ⟨d,.binOp .eql t x (.const .nilFunc) t2,ty,pos,af,g⟩ Γ [] [] (λ_=>[]) (λ_=>tv (.bool o.isNone)):=QaQ λF w a he=>by have hv:=hx.val (by simp[Op.operands]) he;refine⟨.bool o.isNone,?_,rfl⟩;simp[execOp,hv,Qiu,eqGuard,binOp,Ql9 ht]
def Qv0 (ht:P.underlying t=some (.func ps rs va)) (hx:Fct Γ x (tv (fidV o))):OpJ P ⟨d,.binOp .neq t x (.const .nilFunc) t2,ty,pos,af,g⟩ Γ [] [] (λ_=>[]) (λ_=>tv (.bool !o.isNone)):=QaQ λF w a he=>by have hv:=hx.val (by simp[Op.operands]) he;refine⟨.bool !o.isNone,?_,rfl⟩;simp[execOp,hv,Qiu,eqGuard,binOp,Ql9 ht]
def Fct.fid {f:FuncId} (h:Fct Γ x (tv (fidV (some f)))):Fct Γ x (Qcc f []):=h.Xn λ_ _ _ hv=>⟨[],hv,rfl,λj T u h=>by simp at h⟩
end
end Go.Sim
set_option linter.unusedSectionVars false
namespace Go.Sim
open Go.MapKept
class MKey (κ:Type) where
 kv:κ->Value
 good:κ->Prop
 inj:∀a b,kv a=kv b->a=b
structure KLaw (P:Program) (kt:TypeId) (κ:Type) [MKey κ]:Prop where
 check:∀(w:World) (em:Bool) (i:κ),MKey.good i->(Instr.checkKey em 10000 kt (MKey.kv i)).run P w=.ok () w
 find:∀(w:World) (i:κ),MKey.good i->∀es:List MapEntry,(∀e∈es,∃j:κ,MKey.good j/\e.key=MKey.kv j)->((Instr.findKey kt (MKey.kv i) es).run P w=.ok none w/\∀e∈es,e.key≠MKey.kv i)\/∃j e,(Instr.findKey kt (MKey.kv i) es).run P w=.ok (some (j,e.val)) w/\es[j]?=some e/\e.key=MKey.kv i
 stays:∀(w:World) (i:κ),MKey.good i->(Instr.keyThatStays (MKey.kv i) (MKey.kv i)).run P w=.ok (MKey.kv i) w
section
variable {κ α:Type} [DecidableEq κ] [MKey κ]
def QsZ:List (κ×α)->κ->Option α
 | [],_=>none
 | p::l,i=>if i=p.1 then some p.2 else QsZ l i
abbrev MpK (κ α:Type):=Option (List (κ×α))
structure Qq2 (R:Rep α) (F:Blk) (w:World) (es:Array MapEntry) (l:List (κ×α)):Prop where
 all:∀e∈es.toList,∃i x,e.key=MKey.kv i/\QsZ l i=some x/\(R.ty x).ok F w e.val
 gd:∀e∈es.toList,∃j:κ,MKey.good j/\e.key=MKey.kv j
 has:∀i x,QsZ l i=some x->∃e∈es.toList,e.key=MKey.kv i
 one:∀(n n':Nat) (e e':MapEntry),es.toList[n]?=some e->es.toList[n']?=some e'->e.key=e'.key->n=n'
def Qq2.keep {R:Rep α} {F F':Blk} {w w':World} {es:Array MapEntry} {l:List (κ×α)} (hF:∀k,F k->F' k) (hh:∀k,F k->w'.heap[k]?=w.heap[k]?) (h:Qq2 R F w es l):Qq2 R F' w' es l:=⟨λe he=>let⟨i,x,h1,h2,h3⟩:=h.all e he;⟨i,x,h1,h2,(R.ty x).keep hF hh h3⟩,h.gd,h.has,h.one⟩
end
instance :MKey Str:=⟨λi=>.string (sB i),λ_=>True,λa b h=>by simpa[sB_inj] using h⟩
instance :MKey Int:=⟨λi=>.int .i64 i,λ_=>True,λa b h=>by simpa using h⟩
end Go.Sim
namespace Go.Sim
section
variable {P:Program} {M:Fr} {M0:Blk} {w0:World} {n:Nat} {Γ:List (Nat×Ty)} {As:List Atom} {a:Act} {w:World}
def YOk2 (P:Program) (l:Nat) (E:List Atom) (v u:Value) (b:Bool) (N:Value->List Atom):Prop:=∀(M:Blk) (w:World),(∀k,M k->k<w.heap.size)->QgK M E w->Qda E->∃fn tmps assign body,(Instr.yield l #[v,u]).run P w=.ok (.round l fn tmps assign body) w/\RoundIn Fence.wide 0 P l fn tmps assign body w (RB E M b N w)
def YOk2.join {l:Nat} {E:List Atom} {v u:Value} {b:Bool} {N:Value->List Atom} (h:YOk2 P l E v u b N):YOk2 P l [QaV E] v u b (λx=>[QaV (N x)]):=λM w hM hE _=>by obtain⟨h1,h2⟩:=Ql8 hE;obtain⟨fn,tmps,as,body,hr,hR⟩:=h M w hM h1 h2;exact⟨fn,tmps,as,body,hr,RoundIn.mono hR (λe w' ⟨x,he,hs,hm⟩=>⟨x,he,by rw[Qia];exact hs,QpK hm⟩)⟩
def Qs0 {d:Option Tmp} {ty:TypeId} {pos:String} {af:Array Edge} {g:Option (Nat×Bool)} {f x y:Operand} {v u:Value} {b:Bool} {l:Nat} {E:List Atom} {N:Value->List Atom} {ts:Array TypeId}
  (hf:Fct Γ f (tv (.func (.yield l) #[] #[]))) (hx:Fct Γ x (tv v)) (hy:Fct Γ y (tv u)) (hY:YOk2 P l E v u b N):OpJ P ⟨d,.call { callee:=.value f,args:=#[x,y],argTypes:=ts },ty,pos,af,g⟩ Γ [] E N (λ_=>tv (.bool b)):=by
 intro M w a hM _ hE hap _ he;have hfv:=hf.val (by simp[Op.operands,Call.operands]) he;have hxv:=hx.val (by simp[Op.operands,Call.operands]) he;have hyv:=hy.val (by simp[Op.operands,Call.operands]) he;obtain⟨fn,tmps,as,body,hrun,hR⟩:=hY M w hM hE hap;have hr:(execOp a.eval (⟨d,.call { callee:=.value f,args:=#[x,y],argTypes:=ts },ty,pos,af,g⟩:Oper)).run P w=.ok (.round l fn tmps as body) w:=by simp only[execOp,resolve,Deferred.ofValue,hfv,map_toArray,Yf,Yi,hxv,hyv,Sem.run_bind,Sem.run_pure,Zj,invoke];simpa using hrun
 simp only[Does,hr];refine RoundIn.mono hR ?_;rintro e w' ⟨x,he,h1,h2⟩;exact⟨_,he,x,h1,h2,rfl⟩
def Qxh {l:Nat} {fn:FuncId} {tmps:Array Value} {p q:Tmp} {assign body:Code} {D:Nat} {E:List Atom} {b:Bool} {N:Value->List Atom} {v u:Value} {Γ:List (Nat×Ty)} (hn:tmps.size=n) (hp:p<n) (hq:q<n) (hpq:p≠q) (hne:(Γ.all λz=>z.1 !=p&&z.1 !=q)=true)
  (h:∀M0 M w a,Qdd M0 (Qef l (Qcs fn tmps #[p,q] assign body D) Γ::E) M->St M w n ((p,tv v)::(q,tv u)::Γ) (Qef l (Qcs fn tmps #[p,q] assign body D) Γ::E) a w->assign.wpIn (Fence.wide.inRound l) 0 P (Exit.then (λa₁ w₁=>∃w₂,(Instr.beginRound l).run P w₁=.ok () w₂/\body.wpIn (Fence.wide.inRound l) 0 P (roundPost P l (RB (Qef l (Qcs fn tmps #[p,q] assign body D) Γ::E) M0 b N w)) a₁ w₂) (λ_ _ _=>False)) a w):
  YOk2 P l (Qef l (Qcs fn tmps #[p,q] assign body D) Γ::E) v u b N:=by
 intro M0 w hM hE hap;have hl:=(hE _ (Zl ..)).1;refine⟨fn,(tmps.setIfInBounds p v).setIfInBounds q u,assign,body,?_,?_⟩
 ·have:=run_yield (P:=P) (args:=#[v,u]) hl.1 rfl;simpa[Qcs] using this
 ·obtain⟨M,hpl,hst⟩:=QqT (a:={ tmps:=(tmps.setIfInBounds p v).setIfInBounds q u,defers:=[] }) (n:=n) (Γ:=(p,tv v)::(q,tv u)::Γ) hM hE hap (by simpa using hn) rfl (λz hz=>by
   rcases Zm.1 hz with rfl | hz
   ·show ((tmps.setIfInBounds p v).setIfInBounds q u).getD p undef=v;rw[Array.getD_eq_getD_getElem?,Array.getElem?_setIfInBounds_ne (Ne.symm hpq)];simp[hn,hp]
   ·rcases Zm.1 hz with rfl | hz
    ·show ((tmps.setIfInBounds p v).setIfInBounds q u).getD q undef=u;simp[hn,hq]
    ·have h1:=hl.2 z hz;have h2:=Zs.1 hne z hz;simp only[Zh,bne_iff_ne,ne_eq] at h2;have e:get { tmps:=(tmps.setIfInBounds p v).setIfInBounds q u,defers:=[] } z.1=tmps.getD z.1 undef:=by
      simp[get,Array.getElem?_setIfInBounds_ne (Ne.symm h2.1),Array.getElem?_setIfInBounds_ne (Ne.symm h2.2)]
     rw[e];exact h1)
  exact roundIn_of_wpIn trivial (h M0 M w _ hpl hst)
def Qst (P:Program) (n:Nat) (Γ:List (Nat×Ty)) {S ι:Type} (A:S->Value->List Atom) (va vb:ι->Value) (p q:Tmp) (assign body:Code) (jx:Exit) (Y:S->ι->Option (S⊕S)):Prop:=
 ∀s g i r,Y s i=some r->∀(M0:Blk) (M:Fr) (w0:World) (a:Act) (l:Nat) (LR LB:Atom) (K:Act->World->Prop) (Q:Exit->Act->World->Prop),(∀F w,LB.ok F w->∃r,w.heap[l]?=some (.loop r))->
  Qdd M0 (LR::A s g) M->St M w0 n ((p,tv (va i))::(q,tv (vb i))::Γ) (LR::A s g) a w0->
  (∀Γ' As a w,St M w0 n Γ' (LR::As) a w->(∀w,St M w0 n Γ' (LB::As) a w->body.wpIn (Fence.wide.inRound l) 0 P Q a w)->K a w)->
  (∀s' x Γ' is As a w,r=.inl s'->St M w0 n Γ' (LB::As) a w->Qcd is=true->(∀L,is.filterMap (λi=>(L::As)[i]?)=L::A s' x)->Q .normal a w)->
  (∀s' x Γ' is As a w,r=.inr s'->St M w0 n Γ' (LB::As) a w->Qcd is=true->(∀L,is.filterMap (λi=>(L::As)[i]?)=L::A s' x)->Q jx a w)->
  assign.wpIn (Fence.wide.inRound l) 0 P (Exit.then K (λ_ _ _=>False)) a w0
def Qol (P:Program) (f1:FuncId) (Tc:List Ty) {S ι:Type} (va vb:ι->Value) (Y:S->ι->Option (S⊕S)) (s0:S) (t:S⊕S):Prop:=∀(l:Nat) (W:S⊕S->Value->Atom) (g0:Value),(∀s g i r,Y s i=some r->YOk2 P l [W (.inl s) g] (va i) (vb i) r.isLeft (λx=>[W r x]))->∃T,FnOk P f1 (tv (.func (.yield l) #[] #[])::Tc) [W (.inl s0) g0] (λx=>[W t x]) T
section
variable {S ι:Type} {A:S->Value->List Atom} {va vb:ι->Value} {p q:Tmp} {assign body:Code} {jump:Code} {jx:Exit} {Y:S->ι->Option (S⊕S)} {s0:S} {g0:Value} {t:S⊕S} {f1:FuncId} {Tc:List Ty} {g:Operand}
def QrZ {fn:FuncId} {D l:Nat} {ex:List Atom} {tm:Array Value} (htm:a.tmps=tm) (hj:Qoj jump jx) (hst:St M w0 n Γ ((Qef l (Qcs fn tm #[p,q] assign body D) Γ::A s0 g0)++ex) a w)
  (hg:Fct Γ g (Qcc f1 Tc)) (hseq:Qol P f1 Tc va vb Y s0 t) (hp:p<n) (hq:q<n) (hpq:p≠q) (hne:(Γ.all λz=>z.1 !=p&&z.1 !=q)=true) (hbody:Qst P n Γ A va vb p q assign body jx Y):
  ∃caps:List Value,a.eval g=.func (.func f1) #[] caps.toArray/\CallsIn Fence.wide 0 P f1 (#[.func (.yield l) #[] #[]]++caps.toArray) w (λe w'=>∃v x,e=.returned v/\St M w0 n Γ (recW A l (Qcs fn tm #[p,q] assign body D) jump Γ t x++ex) a w'):=by
 obtain⟨caps,hgv,hcap⟩:=hg _ _ a (λp hp _=>hst.Xo p hp);refine⟨caps,hgv,callsIn_wide.2 ?_⟩;obtain⟨T,hcall⟩:=hseq l (λr x=>QaV (recW A l (Qcs fn tm #[p,q] assign body D) jump Γ r x)) g0 (λs g i r hY=>by
  refine (Qxh (Γ:=Γ) (b:=r.isLeft) (N:=λx=>recW A l (Qcs fn tm #[p,q] assign body D) jump Γ r x) (htm▸hst.size) hp hq hpq hne (λM0 M w a hpl hst'=>?_)).join;refine hbody s g i r hY M0 M w a l _ (Qef l { Qcs fn tm #[p,q] assign body D with state:=.busy } Γ) _ _ (λF w h=>⟨_,h.1⟩) hpl hst' (λΓ' As a w1 h1 h2=>QrW h1 rfl h2) ?_ ?_
  ·rintro s' x Γ' is As a w1 rfl h1 hd hN;exact QsW x is hpl h1 hd (hN _)
  ·rintro s' x Γ' is As a w1 rfl h1 hd hN;exact QrX hj x is hpl h1 hd (hN _))
 have hcall:=(FnOk.unjoin hcall) (hold M.m ((Qef l (Qcs fn tm #[p,q] assign body D) Γ::A s0 g0)++ex)) w (.func (.yield l) #[] #[]::caps) ?_ ?_ ?_ ?_
 ·refine Calls.mono (by simpa using hcall) ?_;rintro e w' ⟨x,v,rfl,hs,hm,_⟩;exact⟨v,x,rfl,hst.called hs hm⟩
 ·intro k hk;rcases hk with hk | ⟨A,hA,hk⟩
  ·exact ZG (hst.m0 k hk).1 hst.grow.size
  ·exact (hst.fresh A hA k hk).2
 ·intro A hA;exact⟨hst.own A (mem_append_left _ hA),λk hk=>.inr ⟨A,mem_append_left _ hA,hk⟩⟩
 ·exact (pairwise_append.1 hst.apart).1
 ·exact .cons rfl hcap
def Qom {Q:Exit->Act->World->Prop} (hj:Qoj jump jx) (hst:St M w0 n Γ (A s0 g0) a w) (hg:Fct Γ g (Qcc f1 Tc)) (hc:QB P f1) (hseq:Qol P f1 Tc va vb Y s0 t) (hp:p<n) (hq:q<n) (hpq:p≠q) (hne:(Γ.all λz=>z.1 !=p&&z.1 !=q)=true)
  (hbody:Qst P n Γ A va vb p q assign body jx Y)
  (hQ:∀s x D a' w' M',t=.inl s->(∀M0 E,Qdd M0 E M->Qlh M0 E D M')->St M' w0 n Γ (objA D defO::A s x) a' w'->Q .normal a' w')
  (hX:∀s x D a' w' M',t=.inr s->(∀M0 E,Qdd M0 E M->Qlh M0 E D M')->St M' w0 n Γ (objA D defO::A s x) a' w'->Q jx a' w'):(Code.rangeFunc g #[p,q] assign body).wp P Q a w:=by
 refine (wpIn_wide (n:=0)).1 (wpIn_rangeFunc λfn _=>?_);have h1:=hst.lay defO;have h2:St M w0 n Γ (Qef (w.alloc defO).heap.size (Qcs fn a.tmps #[p,q] assign body w.heap.size) Γ::objA w.heap.size defO::A s0 g0) a ((w.alloc defO).alloc (.loop (Qcs fn a.tmps #[p,q] assign body w.heap.size))):=h1.layA (.loop (Qcs fn a.tmps #[p,q] assign body w.heap.size)) (λ_=>Iff.rfl) (λF w' hF hh h=>⟨h,λp hp=>p.2.keep hF (λk hk=>hh k hk.1) (h1.Xo p hp)⟩);rw[World.size_alloc] at h2;obtain⟨fn1,hf1,hf2,hf3⟩:=hc;have h3:=h2.perm (Bs:=(Qef (w.heap.size+1) (Qcs fn a.tmps #[p,q] assign body w.heap.size) Γ::A s0 g0)++[objA w.heap.size defO]) (by refine Perm.cons _ ?_;exact (perm_append_comm (l₁:=[objA w.heap.size defO]) (l₂:=A s0 g0)));have hW:∃W,(w.alloc defO).alloc (.loop (Qcs fn a.tmps #[p,q] assign body w.heap.size))=W:=⟨_,rfl⟩;obtain⟨W,hW⟩:=hW;have hen:=run_enterLoop_outer (P:=P) (w:=w) fn a.tmps #[p,q] assign body
 change _=Result.ok _ ((w.alloc defO).alloc (.loop (Qcs fn a.tmps #[p,q] assign body w.heap.size))) at hen
 rw[hW] at h2 h3 hen;obtain⟨caps,hgv,hcalls⟩:=QrZ (jump:=jump) rfl hj h3 hg hseq hp hq hpq hne hbody;refine⟨w.heap.size+1,[mark w.heap.size],W,{ target:=.fn (.func f1) caps.toArray,args:=#[.func (.yield (w.heap.size+1)) #[] #[]] },W,f1,#[.func (.yield (w.heap.size+1)) #[] #[]]++caps.toArray,W,hen,?_,λ_ _=>trivial,?_,λhh=>(by cases hh),?_⟩
 ·simp[resolve,Deferred.ofValue,hgv];rfl
 ·simp only[invoke,callFunc,Sem.run_bind,Sem.run_pure,run_program,Zj,hf1,hf2,hf3,ZP,if_false]
 ·refine callsIn_wide.2 (Calls.mono (callsIn_wide.1 hcalls) ?_);rintro e w' ⟨v,x,rfl,h4⟩;have fin:∀(As:List Atom) (w'':World),St M w0 n Γ (As++[objA w.heap.size defO]) a w''->∃M',(∀M0 E,Qdd M0 E M->Qlh M0 E w.heap.size M')/\St M' w0 n Γ (objA w.heap.size defO::As) { a with defers:=[mark w.heap.size]++a.defers } w'':=λAs w'' h5=>by
   have h6:=h5.perm (Bs:=objA w.heap.size defO::As) (perm_append_comm (l₁:=As) (l₂:=[objA w.heap.size defO]));exact⟨⟨M.m,M.b,[mark w.heap.size]++M.d⟩,λM0 E hpl=>⟨hpl.b,hpl.m,hpl.d,by simp[hpl.e]⟩,⟨h6.size,by simp[h6.defers],h6.grow,h6.m0,h6.own,h6.fresh,h6.apart,h6.Xo⟩⟩
  cases t with
  | inl s=>refine⟨none,_,run_endLoop (h4.own _ (Zl ..)).1 (by simp[Qcs]),?_⟩;obtain⟨M',hM',h5⟩:=fin (A s x) _ ((h4.putL { Qcs fn a.tmps #[p,q] assign body w.heap.size with state:=.exhausted } rfl).sub (sublist_cons_self ..));exact hQ s x _ _ _ M' rfl hM' h5
  | inr s=>
   refine⟨some jump,_,run_endLoop (h4.own _ (Zl ..)).1 (by simp),?_⟩;obtain⟨M',hM',h5⟩:=fin (A s x) _ ((h4.putL { Qcs fn a.tmps #[p,q] assign body w.heap.size with state:=.exhausted,pending:=some jump } rfl).sub (sublist_cons_self ..));have:=hX s x _ _ _ M' rfl hM' h5
   cases hj with
   | ret=>exact wpIn_ret this
   | exit id=>exact wpIn_exit this
end
end
end Go.Sim
namespace Go.Sim
def QW.take {Ts:List Ty} {F:Blk} {w:World} {us:List Value} (h:QW Ts F w us) (n:Nat):QW (Ts.take n) F w (us.take n):=
 ⟨by rw[ZE,ZE,h.1],λj T u hT hu=>by
  rw[getElem?_take] at hT hu;split at hT
  ·rename_i hj;rw[Ze hj] at hu;exact h.2 j T u hT hu
  ·cases hT⟩
def QW.drop {Ts:List Ty} {F:Blk} {w:World} {us:List Value} (h:QW Ts F w us) (n:Nat):QW (Ts.drop n) F w (us.drop n):=⟨by rw[ZR,ZR,h.1],λj T u hT hu=>by rw[getElem?_drop] at hT hu;exact h.2 _ T u hT hu⟩
section
variable {α:Type} {R:Rep α}
def Quh (xs:List α) (i:Nat):(xs.take i).flatMap R.cs=(xs.flatMap R.cs).take (i * R.n):=by
 induction xs generalizing i with
 | nil=>simp
 | cons x xs ih=>
  cases i with
  | zero=>simp
  | succ i=>
   have e:(i+1) * R.n=R.n+i * R.n:=by rw[Nat.succ_mul,Nat.add_comm]
   rw[take_succ_cons,flatMap_cons,flatMap_cons,ih,e,take_append,R.len,Nat.add_sub_cancel_left,ZI (l:=R.cs x) (by rw[R.len];omega)]
def QpM (xs:List α) (i:Nat):(xs.drop i).flatMap R.cs=(xs.flatMap R.cs).drop (i * R.n):=by
 induction xs generalizing i with
 | nil=>simp
 | cons x xs ih=>
  cases i with
  | zero=>simp
  | succ i=>
   have e:(i+1) * R.n=R.n+i * R.n:=by rw[Nat.succ_mul,Nat.add_comm]
   rw[drop_succ_cons,flatMap_cons,ih,e,drop_append,R.len,Nat.add_sub_cancel_left,drop_of_length_le (l:=R.cs x) (by rw[R.len];omega),Ya]
variable {Γ:List (Nat×Ty)} {P:Program} {d:Option Tmp} {ty:TypeId} {pos:String} {af:Array Edge} {g:Option (Nat×Bool)} {x y:Operand} {t e:TypeId} {bytes:Nat} {z:Value} {v:Value}
def Qon {xs as ys:List α} {i j:Int} (ht:P.underlying t=some (.slice e)) (hz:TOk P e R bytes z) (hx:Fct Γ x (tv (cutV R.n v 0 i))) (hy:Fct Γ y (tv (cutV R.n v j xs.length))) (hi:sub xs 0 i=some as) (hj:sub xs j xs.length=some ys) (hij:i<=j) (hne:i<xs.length):
  OpJ P ⟨d,.call { callee:=.builtin .append,args:=#[x,y],argTypes:=#[t,t] },ty,pos,af,g⟩ Γ [] [own R e xs v] (λ_=>[own R e (as++ys++xs.drop (i.toNat+ys.length)) v]) (λ_=>tv (cutV R.n v 0 (i+ys.length))):=by
 intro M w A hM _ hE _ _ he;obtain⟨ho,hfp⟩:=hE _ (Zg.2 rfl);have hgiv:=QdA hE;have h1:=hx.val (by simp[Op.operands,Call.operands]) he;have h2:=hy.val (by simp[Op.operands,Call.operands]) he;obtain⟨ti,hti,htz,hs,_⟩:=hz.info;obtain⟨_,c1,c2,hd,hdl⟩:=QgX hi;obtain⟨d0,d1,d2,hd2,hdl2⟩:=QgX hj;obtain⟨i,rfl⟩:=ZK c1;obtain⟨j,rfl⟩:=ZK d0;simp only[Zt,Int.toNat_zero,drop_zero,Nat.sub_zero] at *;have hyl:ys.length=xs.length - j:=by omega
 have hye:ys=xs.drop j:=by rw[hd2,ZI (by rw[ZR];exact Zp _)]
 have hil:i<xs.length:=by omega
 have hex:∀r w',(Builtin.append_ #[t,t] ty #[cutV R.n v 0 i,cutV R.n v j xs.length]).run P w=.ok r w'->(execOp A.eval (⟨d,.call { callee:=.builtin .append,args:=#[x,y],argTypes:=#[t,t] },ty,pos,af,g⟩:Oper)).run P w=.ok (.value r) w':=by intro r w' hr;simp only[execOp,resolve,invoke,builtin,Sem.run_bind,Sem.run_pure,Zj,map_toArray,Yf,Yi,h1,h2,hr]
 have hrl:(as++ys++xs.drop (i+ys.length)).length=xs.length:=by rw[Zd,Zd,ZR,hdl];omega
 rcases Qa8 ho with⟨hv,hxs⟩ | ⟨b,cap,cur,hv,hbk,hlc,hmx,hcs,hcl⟩
 ·subst hxs;simp at hil
 ·subst hv;have ecut:∀n:Nat,cutV R.n (.slice (some ⟨b,0,none⟩) xs.length cap) 0 (n:Int)=.slice (some ⟨b,0,none⟩) n cap:=λn=>by
   simp only[cutV,Zt,Int.toNat_zero,Nat.sub_zero];rw[Zb (by omega)];simp[Addr.add]
  by_cases hy0:ys=[]
  ·have hl0:ys.length=0:=by rw[hy0];rfl
   obtain⟨ad,c,hc1⟩:∃ad c,cutV R.n (.slice (some ⟨b,0,none⟩) xs.length cap) j xs.length=.slice ad 0 c:=⟨_,_,by simp only[cutV,Zt];rw[show xs.length - j=0 by omega]⟩;have hr:=hex (.slice (some ⟨b,0,none⟩) i cap) w (by rw[hc1,ecut];cases ad<;>simp[Builtin.append_,run_underlying ht,sizeOf,typeInfo,hti,Builtin.lenOf,Builtin.firstCells,loadCells,loadCellsFrom,show i<=cap by omega,storeCells]);simp only[Does,hr];have e1:as++ys++xs.drop (i+ys.length)=xs:=by rw[hy0,Yd,hd];simp
   refine⟨undef,Step.refl _ _,QbQ (λk hk=>⟨.inl (Qak.2 hk),hM k (hfp k hk)⟩) ?_,?_⟩
   ·rw[e1];refine Atom.keep _ (λk hk=>?_) (λ_ _=>rfl) (λ_ _=>rfl) ho;refine QcF (Zp _) hgiv (λB hB j hj=>?_) hk;obtain rfl:=Zg.1 hB;exact .inl (Qak.2 hj)
   ·rw[hl0];show _=_;rw[show ((i:Int)+((0:Nat):Int))=((i:Nat):Int) by omega,ecut]
  ·have hk1:=QqQ (m:=R.n) (b:=b) (n:=xs.length) hj hlc hy0;have hcapn:xs.length * R.n<=cap * R.n:=Nat.mul_le_mul_right _ hlc;obtain⟨news,hnews⟩:∃news,news=(cur.toList.take (xs.length * R.n)).drop (j * R.n):=⟨_,rfl⟩;have hjl:j<=xs.length:=by omega
   have hnl:news.length=ys.length * R.n:=by rw[hnews,ZR,ZE,Nat.min_eq_left (by simp;omega),hyl,Nat.sub_mul]
   have hcn:QW (ys.flatMap R.cs) (free M w) w news:=by rw[hye,QpM,hnews];exact hcl.drop _
   have hcell:∀q u,news[q]?=some u->w.cell? ((⟨b,j * R.n,none⟩:Addr).add q)=some u:=by
    intro q u hu;rw[hnews,getElem?_drop,getElem?_take] at hu;split at hu
    ·rw[Qbb];simpa[World.cell?,hbk] using hu
    ·cases hu
   have hone:∀u∈news,u.oneCell'=true:=by
    intro u hu;obtain⟨q,hq⟩:=ZV.1 hu;have hql:q<(ys.flatMap R.cs).length:=by rw[<-hcn.1];exact (Zc.1 hq).1
    have hT:=hcn.2 q _ u (Zf hql) hq;obtain⟨p,_,hp⟩:=Yh.1 (Zn hql);exact R.one p _ hp (free M w) w u hT
   have hmul:i * R.n+ys.length * R.n<=xs.length * R.n:=by rw[<-Nat.add_mul];exact Nat.mul_le_mul_right _ (by omega)
   have hfit:i * ti.size+news.length<=cur.size:=by rw[hnl,hs,hcs];omega
   have hrun:=run_append_room (P:=P) w t ty e ti ht hti b i cap cur hbk ⟨b,j * R.n,none⟩ ys.length (cap - j) news (by rw[hnl,hs]) hcell hone (by omega) hfit;have hr:=hex _ _ (by rw[ecut,hk1];exact hrun);simp only[Does,hr];have heat:∀k,Qay [own R e xs (.slice (some ⟨b,0,none⟩) xs.length cap)] k↔k=b:=λk=>by rw[Qak,Qbz]
   refine⟨undef,Qfo ((heat b).2 rfl),QbQ (λk hk=>?_) ?_,?_⟩
   ·rw[Qbz] at hk;rw[hk];exact⟨.inl ((heat b).2 rfl),by simpa using (Array.getElem?_eq_some_iff.1 hbk).1⟩
   ·have key:∀F',(∀k,free M w k->F' k)->(own R e (as++ys++xs.drop (i+ys.length)) (.slice (some ⟨b,0,none⟩) (as++ys++xs.drop (i+ys.length)).length cap)).ok F' (w.setRow b (cur.toList.take (i * ti.size)++news++cur.toList.drop (i * ti.size+news.length)).toArray):=?key
    ·have:=key _ (λk hk=>QcF (w':=w.setRow b (cur.toList.take (i * ti.size)++news++cur.toList.drop (i * ti.size+news.length)).toArray) (N:=[own R e (as++ys++xs.drop (i+ys.length)) (.slice (some ⟨b,0,none⟩) xs.length cap)]) (by simp) hgiv (λB hB j hj=>by
      obtain rfl:=Zg.1 hB;rw[Qbz] at hj;exact .inl ((heat j).2 hj)) hk)
     rw[hrl] at this;exact this
    intro F' hF';refine QhK (cur:=(cur.toList.take (i * ti.size)++news++cur.toList.drop (i * ti.size+news.length)).toArray) (setRow_heap w b cur _ e _ hbk) (by rw[hrl];exact hlc) hmx ?_ ?_
    ·simp only[size_toArray,Zd,ZE,ZR,Array.length_toList,hs,hnl];omega
    ·rw[hrl];have e1:(cur.toList.take (i * ti.size)++news++cur.toList.drop (i * ti.size+news.length)).take (xs.length * R.n)=(cur.toList.take (xs.length * R.n)).take (i * R.n)++news++(cur.toList.take (xs.length * R.n)).drop ((i+ys.length) * R.n):=by
      have h3:(cur.toList.take (i * R.n)++news).length=(i+ys.length) * R.n:=by rw[Zd,ZE,hnl,Nat.min_eq_left (by simp;omega),Nat.add_mul]
      rw[hs,take_append,h3,ZI (by rw[h3,Nat.add_mul];omega),take_take,Nat.min_eq_left (by omega),hnl,<-Nat.add_mul,drop_take]
     simp only;rw[e1,ZN,ZN,hd,Quh,QpM];refine (((hcl.take _).append hcn).append (hcl.drop _)).Xq hF' (λk hk=>setRow_other w b k _ (λe=>?_));exact hk.2 (hfp k (Qbz.2 e))
   ·show _=_;rw[show ((i:Int)+(ys.length:Int))=((i+ys.length:Nat):Int) by omega,ecut]
def Qsu {xs:List α} {lo hi mx:Operand} {k1 k2 k3:IntKind} {i j m:Int} (ht:P.underlying t=some (.slice e)) (hz:TOk P e R bytes z) (hx:Fct Γ x (tv v)) (hlo:Fct Γ lo (tv (.int k1 i))) (hhi:Fct Γ hi (tv (.int k2 j))) (hm:Fct Γ mx (tv (.int k3 m))) (h0:0<=i) (h1:i<=j) (h2:j<=m) (h3:m<=xs.length):
  OpJ P ⟨d,.slice t x (some lo) (some hi) (some mx),ty,pos,af,g⟩ Γ [own R e xs v] [] (λ_=>[]) (λ_=>tany):=
 Qcq λM w A hU he=>by
  obtain⟨ad,cap,hv,hlc⟩:=Qm7 (hU _ (Zg.2 rfl));have hxv:=hx.val (by simp[Op.operands]) he;have e1:=hlo.val (by simp[Op.operands]) he;have e2:=hhi.val (by simp[Op.operands]) he;have e3:=hm.val (by simp[Op.operands]) he;obtain⟨ti,hti,_,hs,_⟩:=hz.info;have hb:(Instr.sliceBounds true xs.length cap (some (A.eval lo)) (some (A.eval hi)) (some (A.eval mx))).run P w=.ok (i.toNat,j.toNat,m.toNat) w:=by rw[e1,e2,e3];simp only[Instr.sliceBounds,Sem.run_bind,Sem.run_pure,Zj,run_sliceBound w k3 m cap _ (by omega) (by omega),run_sliceBound w k2 j m.toNat _ (by omega) (by omega),run_sliceBound w k1 i j.toNat _ h0 (by omega)]
  subst hv;refine⟨.slice (if m.toNat=i.toNat then ad else ad.map (·.add (i.toNat * R.n))) (j.toNat - i.toNat) (m.toNat - i.toNat),?_,trivial⟩;simp[execOp,Instr.sliceAt,run_underlying ht,Instr.slice,hxv,hb,sizeOf,typeInfo,hti,hs]
def QpN {xs as:List α} {i:Int} (ht:P.underlying t=some (.slice e)) (hx:Fct Γ x (tv (cutV R.n v 0 i))) (h:sub xs 0 i=some as):
  OpJ P ⟨d,.call { callee:=.builtin .len,args:=#[x],argTypes:=#[t] },ty,pos,af,g⟩ Γ [own R e xs v] [] (λ_=>[]) (λ_=>tv (.int .i64 i)):=
 Qcq λM w A hU he=>by obtain⟨ad,cap,hv,hlc⟩:=Qm7 (hU _ (Zg.2 rfl));have hxv:=hx.val (by simp[Op.operands,Call.operands]) he;obtain⟨_,c1,_,_,_⟩:=QgX h;subst hv;refine⟨.int .i64 i,?_,rfl⟩;have hi:((i.toNat:Nat):Int)=i:=Int.toNat_of_nonneg c1;simp[execOp,resolve,invoke,builtin,hxv,cutV,Builtin.len_,run_underlying ht,goInt,hi]
def QpO {xs as:List α} {lo hi:Operand} {k1 k2:IntKind} {i:Int} (ht:P.underlying t=some (.slice e)) (hz:TOk P e R bytes z) (hx:Fct Γ x (tv (cutV R.n v 0 i))) (hlo:Fct Γ lo (tv (.int k1 i))) (hhi:Fct Γ hi (tv (.int k2 xs.length))) (h:sub xs 0 i=some as) (h0:0<xs.length):
  OpJ P ⟨d,.slice t x (some lo) (some hi) none,ty,pos,af,g⟩ Γ [own R e xs v] [] (λ_=>[]) (λ_=>tv (cutV R.n v i xs.length)):=
 Qcq λM w A hU he=>by
  obtain⟨ad,cap,hv,hlc⟩:=Qm7 (hU _ (Zg.2 rfl));have hxv:=hx.val (by simp[Op.operands]) he;have e1:=hlo.val (by simp[Op.operands]) he;have e2:=hhi.val (by simp[Op.operands]) he;obtain⟨ti,hti,_,hs,_⟩:=hz.info;obtain⟨_,c1,c2,_,_⟩:=QgX h;have hb:(Instr.sliceBounds true i.toNat cap (some (A.eval lo)) (some (A.eval hi)) none).run P w=.ok (i.toNat,xs.length,cap) w:=by rw[e1,e2];simp only[Instr.sliceBounds,Sem.run_bind,Sem.run_pure,Zj,run_sliceBound w k2 xs.length cap _ (by omega) (by omega),run_sliceBound w k1 i ((xs.length:Nat):Int).toNat _ c1 (by omega)];rfl
  subst hv;refine⟨cutV R.n (.slice ad xs.length cap) i xs.length,?_,rfl⟩;have hc:¬cap=0:=by omega
  have had:ad.map (λa=>a.add 0)=ad:=by cases ad<;>simp[Addr.add]
  simp only[cutV,Int.toNat_zero,Nat.zero_mul,Zb hc,had] at hxv hb ⊢;simp[execOp,Instr.sliceAt,run_underlying ht,Instr.slice,hxv,hb,sizeOf,typeInfo,hti,hs]
end
end Go.Sim
namespace Go.Sim
def Qnh {o:Option Nat}:One (tv (fidV o)):=QO (by cases o<;>rfl)
def Fct.fidO {Γ:List (Nat×Ty)} {x:Operand} {o:Option Nat} {f:FuncId} (e:o=some f) (h:Fct Γ x (tv (fidV o))):Fct Γ x (Qcc f []):=Fct.fid (by rw[<-e];exact h)
section
variable {P:Program} {d:Option Tmp} {ty t:TypeId} {pos:String} {af:Array Edge} {g:Option (Nat×Bool)} {Γ:List (Nat×Ty)} {x y:Operand} {z:Value}
def Qui {es:List (Value×Value)} {i:Int} {kt et:TypeId} {V:Option Value->Ty} (ht:P.underlying t=some (.map kt et)) (hk:P.underlying kt=some (.int .i64)) (hz:(P.info? et).bind (·.zero)=some z)
  (hx:Fct Γ x (QkA es)) (hi:Fct Γ y (tv (.int .i64 i))) (hV:∀F w,(V (QbF es i)).ok F w ((QbF es i).getD z)):OpJ P ⟨d,.lookup t x y false,ty,pos,af,g⟩ Γ [] [] (λ_=>[]) (λ_=>V (QbF es i)):=
 QaQ λF w A he=>by
  obtain⟨r,ms,c,hv,_,hh,hks,hms⟩:=hx.use (by simp[Op.operands]) he;have h2:=hi.val (by simp[Op.operands]) he;obtain⟨ti,hti,hzz⟩:∃ti,P.info? et=some ti/\ti.zero=some z:=by
   cases h:P.info? et with
   | none=>simp[h] at hz
   | some ti=>exact⟨ti,rfl,by simpa[h] using hz⟩
  have hzv:(zeroValue et).run P w=.ok z w:=by simp[zeroValue,typeInfo,hti,hzz]
  have hf:=Qk1 i ms.toList 0 hks;rw[hms] at hf;have hck:∀b n,(Instr.checkKey b (n+1) kt (.int .i64 i)).run P w=.ok () w:=λb n=>by simp[Instr.checkKey,run_underlying hk]
  have hobj:(getObj r).run P w=.ok (.map ms c) w:=by simp[getObj,Sem.run,hh]
  cases hn:Instr.findNow (.int .i64) (.int .i64 i) ms.toList 0 with
  | none=>rw[hn] at hf;cases hf
  | some o=>
   rw[hn] at hf;simp only[ZO,ZB] at hf;refine⟨(QbF es i).getD z,?_,hV F w⟩;rw[<-hf]
   cases o with
   | none=>simp only[execOp,hv,h2,Instr.lookup,Sem.run_bind,run_underlying ht,Zj,hobj,Sem.run_pure,hck _ 9999,Instr.findKey,run_underlying hk,hn,hzv,Option.map_none,Option.getD_none,if_false,ZP]
   | some q=>simp only[execOp,hv,h2,Instr.lookup,Sem.run_bind,run_underlying ht,Zj,hobj,Sem.run_pure,hck _ 9999,Instr.findKey,run_underlying hk,hn,ZO,ZQ,if_false,ZP]
end
def tone:Ty:=⟨λ_ _ v=>v.oneCell'=true,λ_ _ h=>h⟩
def Qj8:One tone:=λ_ _ _ h=>h
@[reducible] def rOne : Rep Unit := ⟨λ_ => [tone],1,false,λ_ => rfl,λ_ => Qk Qj8 Q5,λ_ => rfl⟩
theorem QnF {P:Program} {d:Option Tmp} {ty t:TypeId} {pos:String} {af:Array Edge} {g:Option (Nat×Bool)} {Γ:List (Nat×Ty)}:OpJ P ⟨d,.makeMap t none,ty,pos,af,g⟩ Γ [] [] (λ_=>[]) (λ_=>tone):=by intro M w A hM _ _ _ _ _;have hexec:(execOp A.eval (⟨d,.makeMap t none,ty,pos,af,g⟩:Oper)).run P w=.ok (.value (.map (some w.heap.size))) (w.alloc (.map #[] 0)):=rfl;simp only[Does,hexec];exact⟨undef,(Step.alloc w _).mono (λ_ h=>h.elim),Qfn,rfl⟩
def cnt (n i:Nat):Option (Nat⊕Unit):=if i<n then some (.inl (i+1)) else some (.inr ())
def Qr0 {n i:Nat} (k:Nat) (h:i+k=n):Qz (cnt n) i=some ():=by
 induction k generalizing i with
 | zero=>rw[Qbc];simp[cnt,show ¬i<n by omega]
 | succ k ih=>rw[Qbc];simp only[cnt,Ze (show i<n by omega)];exact ih (by omega)
def QnP {P:Program} {a:Act} {w:World} {c:Code} {Q:Exit->Act->World->Prop} (n:Nat) (I:Nat->Act->World->Prop) (h0:I 0 a w)
  (round:∀i a w (K:Act->World->Prop),i<=n->I i a w->(i<n->∀a w,I (i+1) a w->K a w)->c.wp P (Exit.then K Q) a w):(Code.loop c).wp P Q a w:=
 Qag (cnt n) (λi a w=>i<=n/\I i a w) () 0 (Qr0 n (Nat.zero_add n)) ⟨Nat.zero_le _,h0⟩ λs o a w K hI hb _ hK=>round s a w K hI.1 hI.2 λhlt a w h=>hK (s+1) a w (by unfold cnt at hb;rw[Ze hlt] at hb;exact (Zz hb).symm) ⟨hlt,h⟩
def QnQ {n:Nat} (h:n<=68719476736):i64.wrap ((n:Int)+(1:Int))=((n+1:Nat):Int):=by rw[show ((n:Int)+1)=((n+1:Nat):Int) by omega];unfold IntKind.wrap;simp[IntKind.signed,IntKind.bits];omega
def QmB {i n:Nat} (b:decide ((i:Int)<(n:Int))=true):i<n:=by simpa using b
structure Done (n i:Nat) (Q:Value->Prop) (z h:Value) (g:Value):Prop where
 hdr:dh g=h
 agg:isFz g=false
 upto:∀j,j<i->Q (ds g j)
 rest:∀j,i<=j->j<n->ds g j=z
def Done.start {n:Nat} {Q:Value->Prop} {z h:Value}:Done n 0 Q z h (dmk h (replicate n z)):=⟨Qne,rfl,λj hj=>by omega,λj _ hj=>by rw[QkC,Zw,getElem?_replicate,Ze hj];rfl⟩
def Done.step {n i:Nat} {Q:Value->Prop} {z h g x:Value} (d:Done n i Q z h g) (hi:i<n) (hx:Q x):Done n (i+1) Q z h (dset n g i x):=
 ⟨Qiv.trans d.hdr,rfl,λj hj=>by
  rw[QgZ (by omega)];split
  ·exact hx
  ·exact d.upto j (by omega),λj h1 h2=>by rw[QgZ h2,Zb (by omega)];exact d.rest j (by omega) h2⟩
def Qad {α:Type} {xs:List α} {i:Nat} (h:i<xs.length):idx xs (i:Int)=some xs[i]:=by unfold idx;rw[Ze (Int.natCast_nonneg i),Zt];exact Zf h
def QlL {α:Type} {xs:List α} {i:Nat} (h:i<xs.length):setAt xs (i:Int) xs[i]=some xs:=by unfold setAt;rw[Ze ⟨Int.natCast_nonneg i,by omega⟩,Zt,set_getElem_self]
def Done.step2 {n i:Nat} {Q:Value->Prop} {z h g x y:Value} (d:Done n i Q z h g) (hi:i<n) (hy:Q y):Done n (i+1) Q z h (dset n (dset n g i x) i y):=
 ⟨Qiv.trans (Qiv.trans d.hdr),rfl,λj hj=>by
  rw[QgZ (by omega)];split
  ·exact hy
  ·rename_i hn;rw[QgZ (by omega),Zb hn];exact d.upto j (by omega),λj h1 h2=>by rw[QgZ h2,Zb (by omega),QgZ h2,Zb (by omega)];exact d.rest j (by omega) h2⟩
def QjZ {α:Type} {L:DRep α} {x:α} {g:Value} (h:isFz g=false):(dOpt L).cs x g=L.cs x g:=by show (bif isFz g then _ else _)=_;rw[h];rfl
def Qj0 {α:Type} {L:DRep α} {x:α} {g:Value} (h:isFz g=false):(dOpt L).lo x g=L.lo x g:=by show (bif isFz g then _ else _)=_;rw[h];rfl
def nofz (z:Value):Prop:=isFz z=false
def Qqs (z:Value):Prop:=isFz (ds z 0)=false/\isFz (ds z 1)=false
def Fct.hd {Γ:List (Nat×Ty)} {x:Operand} {v v':Value} (e:v'=v) (h:Fct Γ x (tv v)):Fct Γ x (tv v'):=e▸h
section
variable {M:Fr} {w0:World} {n:Nat} {Γ:List (Nat×Ty)} {As:List Atom} {a:Act} {w:World} {α:Type} {D:DRep α} {e:TypeId} {xs:List α} {g:Value} {A:Atom}
def St.drop1 (h:St M w0 n Γ (A::As) a w):St M w0 n Γ As a w:=(h.swapA (B:=QaV []) (λk hk=>by obtain⟨_,hA,_⟩:=hk;cases hA) (λF hF _=>⟨λA hA=>(by cases hA),Pairwise.nil⟩)).unjoin
def St.openZ {i:Nat} (hi:i<xs.length) (h:St M w0 n Γ (deep D e xs g::As) a w):St M w0 n Γ (Qaq D e xs g (some i)::As) a w:=(h.openD (Qad hi)).drop1
def St.bareZ {R:Rep α} {v:Value} (z:Value) (hn:R.n=D.S.n) (hc:∀x,R.cs x=D.cs x z) (hb:∀x,Bare D x z) (h:St M w0 n Γ (Sim.own R e xs v::As) a w):St M w0 n Γ (deep D e xs (dmk v (replicate xs.length z))::As) a w:=by
 have hz:∀(j:Nat) (x:α),xs[j]?=some x->(replicate xs.length z).getD j nilV=z:=λj x hx=>by rw[Zw,getElem?_replicate,Ze (Zc.1 hx).1];rfl
 exact h.bareD hn rfl (λj b x hb hx=>by rw[hz j x hx];rw[hb] at hx;cases hx;exact hc b) (λj x hx=>by rw[hz j x hx];exact hb x)
end
def St.hdrD {M:Fr} {w0:World} {n:Nat} {Γ:List (Nat×Ty)} {As:List Atom} {a:Act} {w:World} {α:Type} {xs:List α} {x:α} {g g2:Value} {i:Int} {s:Nat} (j:Nat) (h:St M w0 n Γ As a w) (hi:idx xs i=some x) (hd:dh g2=dh (ds g i.toNat)) (hj:Γ[j]?=some (s,tv (dh (ds g i.toNat))):=by rfl):
  St M w0 n ((s,tv (dh (ds (dset xs.length g i.toNat g2) i.toNat)))::Γ) As a w:=
 h.add j hj (λ_ _ _ h=>by rw[QeW (QcG hi).2.1,hd];exact h)
def OpJ.sayE {P:Program} {o:Oper} {Γ:List (Nat×Ty)} {U E:List Atom} {N:Value->List Atom} {T:Value->Ty} {A:Atom} {φ:Prop} (hA:∀F w,A.ok F w->φ) (h:φ->OpJ P o Γ U (A::E) N T):OpJ P o Γ U (A::E) N T:=λM w a hM hU hE hap hUE he=>h (hA _ _ (hE A (Zl ..)).1) M w a hM hU hE hap hUE he
section
variable {α:Type} {D:DRep α} {e:TypeId} {xs:List α} {g hv:Value} {o:Option Nat} {i:Int} {u:α}
def Quj (h0:idx xs i=some u) (hn:D.S.n=1) (hc:D.cs u (ds g i.toNat)=[tvs hv]) {F:Blk} {w:World} (h:(Qaq D e xs g o).ok F w):hv.oneCell'=true:=by
 obtain⟨⟨us,_,hcs⟩,_,_⟩:=h;have hz:(zg xs g)[i.toNat]?=some (u,ds g i.toNat):=by rw[QfE,(QcG h0).2.2];rfl
 have hg:=Qek (drep D) (zg xs g) i.toNat 0 _ hz (by show 0<D.S.n;omega);have hq:(D.cs u (ds g i.toNat))[0]?=some (tvs hv):=by rw[hc];rfl
 have hT:=hg.trans hq;have hl:=(Zc.1 hT).1;rw[<-hcs.1] at hl;exact (hcs.2 _ _ _ hT (Zf hl)).2
def Qs1 {Γ:List (Nat×Ty)} {P:Program} {d:Option Tmp} {ty t:TypeId} {pos:String} {af:Array Edge} {gd:Option (Nat×Bool)} {p q:Operand} {bytes:Nat} {z:Value} (hz:TOk P t rVal bytes z) (hp:Fct Γ p (tv (QaX (dh g) (i.toNat * D.S.n)))) (hx:Fct Γ q (tv (dh (ds g i.toNat)))) (h0:idx xs i=some u) (hn:D.S.n=1:=by rfl) (hc:D.cs u (ds g i.toNat)=[tvs (dh (ds g i.toNat))]:=by rfl):
  OpJ P ⟨d,.store t p q,ty,pos,af,gd⟩ Γ [] [Qaq D e xs g o] (λ_=>[Qaq D e xs g o]) (λ_=>tany):=
 .sayE (λ_ _ h=>Quj h0 hn hc h) λh1=>by
  obtain⟨hi0,hlt,hx0⟩:=QcG h0;have hs:setAt xs i u=some xs:=by
   unfold setAt;rw[Ze ⟨hi0,by omega⟩];congr 1;apply ext_getElem?;intro j;by_cases hj:i.toNat=j
   ·subst hj;rw[getElem?_set_self hlt,hx0]
   ·rw[getElem?_set_ne hj]
  refine OpJ.focus (Qmz rfl rfl (λj x y _ hx hy=>by rw[hx] at hy;cases hy;rfl)) (QaT (R:=drep D) (R2:=rVal) (u:=(u,ds g i.toNat)) (u2:=dh (ds g i.toNat)) (off:=0) hz (hp.Xn λ_ _ _ h=>by rw[h];exact (Qmy _ _).symm) (hx.Xn λ_ _ _ h=>⟨h,h1⟩) (Qjl h0) (QqX hs (λ_ _ _=>rfl)) (by show 0+1<=D.S.n;omega) ?_);show D.cs u _=splice (D.cs u _) 0 [tvs _];rw[hc];rfl
end
def FnOk.flatE {P:Program} {f:FuncId} {Ts:List Ty} {X A B Y:Atom} {N:Value->List Atom} {T:Value->Ty} (hf:Flat A B) (h:FnOk P f Ts [X,B,Y] N T):FnOk P f Ts [X,A,Y] N T:=by
 intro M w vs hM hE hap hc;have hX:=hE X (by simp);have hA:=hE A (by simp);have hY:=hE Y (by simp);have hXA:∀k,X.fp k->¬A.fp k:=(pairwise_cons.1 hap).1 A (by simp);have hXY:∀k,X.fp k->¬Y.fp k:=(pairwise_cons.1 hap).1 Y (by simp);have hAY:∀k,A.fp k->¬Y.fp k:=(pairwise_cons.1 (pairwise_cons.1 hap).2).1 Y (by simp);have hM':∀k,(M k/\¬(A.fp k/\¬B.fp k))->M k:=λk h=>h.1;have hfr:∀k,free M w k->free (λk=>M k/\¬(A.fp k/\¬B.fp k)) w k:=λk ⟨h1,h2⟩=>⟨h1,λh=>h2 h.1⟩;have heq:∀k,(M k/\¬Qay [X,A,Y] k)↔((M k/\¬(A.fp k/\¬B.fp k))/\¬Qay [X,B,Y] k):=by
  intro k;constructor
  ·rintro ⟨h1,h2⟩;refine⟨⟨h1,λh3=>h2 ⟨A,by simp,h3.1⟩⟩,?_⟩;rintro ⟨C,hC,hk⟩;simp only[Zm,Zr,ZJ] at hC;rcases hC with rfl | rfl | rfl
   ·exact h2 ⟨_,by simp,hk⟩
   ·exact h2 ⟨A,by simp,hf.fp k hk⟩
   ·exact h2 ⟨_,by simp,hk⟩
  ·rintro ⟨⟨h1,h2⟩,h3⟩;refine⟨h1,?_⟩;rintro ⟨C,hC,hk⟩;simp only[Zm,Zr,ZJ] at hC;rcases hC with rfl | rfl | rfl
   ·exact h3 ⟨_,by simp,hk⟩
   ·exact h2 ⟨hk,λhb=>h3 ⟨B,by simp,hb⟩⟩
   ·exact h3 ⟨_,by simp,hk⟩
 have hsub:∀k,Qay [X,B,Y] k->Qay [X,A,Y] k:=by
  rintro k ⟨C,hC,hk⟩;simp only[Zm,Zr,ZJ] at hC;rcases hC with rfl | rfl | rfl
  ·exact⟨_,by simp,hk⟩
  ·exact⟨A,by simp,hf.fp k hk⟩
  ·exact⟨_,by simp,hk⟩
 have hnext:∀Ns:List Atom,next M [X,A,Y] Ns=next (λk=>M k/\¬(A.fp k/\¬B.fp k)) [X,B,Y] Ns:=λNs=>by
  funext k
  exact propext (or_congr (heq k) Iff.rfl)
 refine Calls.mono (h (λk=>M k/\¬(A.fp k/\¬B.fp k)) w vs (λk hk=>hM k hk.1) (λC hC=>?_) ?_ (QW.keep hfr (λ_ _=>rfl) hc)) ?_
 ·simp only[Zm,Zr,ZJ] at hC;rcases hC with rfl | rfl | rfl
  ·exact⟨Atom.keep _ hfr (λ_ _=>rfl) (λ_ _=>rfl) hX.1,λk hk=>⟨hX.2 k hk,λh=>hXA k hk h.1⟩⟩
  ·exact⟨hf.ok hfr hA.1 (λk hk hn=>⟨hM k (hA.2 k hk),λh=>h.2 ⟨hk,hn⟩⟩),λk hk=>⟨hA.2 k (hf.fp k hk),λh=>h.2 hk⟩⟩
  ·exact⟨Atom.keep _ hfr (λ_ _=>rfl) (λ_ _=>rfl) hY.1,λk hk=>⟨hY.2 k hk,λh=>hAY k h.1 hk⟩⟩
 ·refine pairwise_cons.2 ⟨λC hC k hk hkC=>?_,pairwise_cons.2 ⟨λC hC k hk hkC=>?_,pairwise_singleton _ _⟩⟩
  ·simp only[Zm,Zr,ZJ] at hC;rcases hC with rfl | rfl
   ·exact hXA k hk (hf.fp k hkC)
   ·exact hXY k hk hkC
  ·obtain rfl:=Zg.1 hC;exact hAY k (hf.fp k hk) hkC
 ·rintro en w' ⟨x,v,he,hg,hN,hty⟩;refine⟨x,v,he,hg.mono hsub,⟨hN.apart,λC hC k hk=>⟨(hN.place C hC k hk).1.imp (hsub k) id,(hN.place C hC k hk).2⟩,λC hC=>?_⟩,?_⟩
  ·rw[hnext];exact hN.ok C hC
  ·rw[hnext];exact hty
def QlM {α:Type} {D:DRep α} {e:TypeId} {xs:List α} {g:Value} (hc:∀x g T,T∈D.cs x g->Qfv T) (hl:∀x g,Qh0 (D.lo x g)):Qh0 (deep D e xs g):=λF F' w ⟨h1,h2,h3⟩=>⟨QiP (R:=drep D) (λp T hT=>hc _ _ T hT) F F' w h1,λi x hi hx=>⟨hl _ _ F F' w (h2 i x hi hx).1,(h2 i x hi hx).2⟩,h3⟩
def Qoo {l:List Atom} (h:∀A∈l,Qh0 A):Qh0 (QaV l):=λF F' w ⟨h1,h2⟩=>⟨λA hA=>h A hA F F' w (h1 A hA),h2⟩
def FnOk.roC {P:Program} {f:FuncId} {Ts:List Ty} {N:Value->List Atom} {T:Value->Ty} {T':Ty} (h:FnOk P f Ts [] N T) (hT:∀(x:Value) (F F':Blk) (w:World) (v:Value),(∀k,F k->F' k)->(∀A∈N x,A.ok F w/\∀k,A.fp k->F' k)->(T x).ok F w v->T'.ok F' w v):FnOk P f Ts [] (λ_=>[]) (λ_=>T'):=by
 intro M w vs hM hE hap hc;refine Calls.mono (h M w vs hM hE hap hc) ?_;rintro en w' ⟨x,v,he,hg,hN,hty⟩;refine⟨undef,v,he,hg,Qfn,hT x _ _ w' v (λk hk=>⟨hk.1,?_⟩) (λA hA=>⟨hN.ok A hA,λk hk=>⟨(hN.place A hA k hk).2,?_⟩⟩) hty⟩
 ·rintro (hm | hm)
  ·exact hk.2 (.inl hm)
  ·rw[Qej] at hm;exact hm
 ·rintro (⟨hm,_⟩ | hm)
  ·have:=hM k hm;rcases (hN.place A hA k hk).1 with h1 | h1
   ·rw[Qej] at h1;exact h1
   ·omega
  ·rw[Qej] at hm;exact hm
end Go.Sim

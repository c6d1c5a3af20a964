/- The logic's seventh part: appends, parts of slices, structs, calls. No condition. -/
import Derived.Test.YtlajingmjmnfgaaGreatDoorSimA
set_option linter.all false
open List
namespace Go.Sim
def FnOk (P:Program) (f:FuncId) (Ts:List Ty) (E:List Atom) (N:Value→List Atom) (T:Value→Ty):Prop:=∀(M:Blk) (w:World) (vs:List Value),(∀k,M k→k<w.heap.size)→Qe5 M E w→QcL E→QQ Ts (free M w) w vs→Calls P f vs.toArray w (fun e w'=>∃x v,e=.returned v∧Step (Qay E) w w'∧Made M E (N x) w w'∧(T x).ok (free (next M E (N x)) w') w' v)
def tclo (f:FuncId) (caps:List Value) (Tc:List Ty):Ty:=⟨fun F w v=>v=.func (.func f) #[] caps.toArray∧QQ Tc F w caps,fun hF hh h=>⟨h.1,QQ.keep hF hh h.2⟩⟩
structure Qj (P:Program) (f:FuncId):Prop where
 fn : ∃ fn, P.funcs[f]? = some fn ∧ (fn.name == "runtime.NumGoroutine") = false ∧ fn.body.isNone = false
def Qa0 (Γ:List (Nat×Ty)) (U:List Atom) (x:Operand) (T:Ty):Prop:=∀(F F':Blk) (w:World) (a:Act),(∀k,F k→F' k)→(∀A∈U,A.ok F w∧∀k,A.fp k→F' k)→(∀p∈Γ,Operand.tmp p.1=x→p.2.ok F w (get a p.1))→T.ok F' w (a.eval x)
inductive Args (Γ:List (Nat×Ty)) (U:List Atom):List Operand→List Ty→Prop where
 | nil:Args Γ U [] []
 | cons {x:Operand} {T:Ty} {xs:List Operand} {Ts:List Ty} (h:Qa0 Γ U x T) (hs:Args Γ U xs Ts):Args Γ U (x::xs) (T::Ts)
def Qg7 (T:Ty):Prop:=∀(F F':Blk) (w:World) (v:Value),T.ok F w v→T.ok F' w v
def Qka (A:Atom):Prop:=∀(F F':Blk) (w:World),A.ok F w→A.ok F' w
def Row.flatMap_sub {α:Type} (R:Rep α) (xs:List α) (i m:Nat) (h:i+m≤xs.length):((xs.drop i).take m).flatMap R.cs=((xs.flatMap R.cs).drop (i * R.n)).take (m * R.n):=by
 have e1:xs.flatMap R.cs=(xs.take i).flatMap R.cs++((xs.drop i).take m).flatMap R.cs++((xs.drop i).drop m).flatMap R.cs:=by rw[←ZM,←ZM,ZW,Yy,Yy]
 have l1:((xs.take i).flatMap R.cs).length=i * R.n:=by rw[Qap];congr 1;simp;omega
 have l2:(((xs.drop i).take m).flatMap R.cs).length=m * R.n:=by rw[Qap];congr 1;simp;omega
 rw[e1,ZW,←l1,drop_left,←l2,take_left]
section
variable {Γ:List (Nat×Ty)} {P:Program} {d:Option Tmp} {ty:TypeId} {pos:String} {af:Array Edge} {g:Option (Nat×Bool)} {x y:Operand} {T:Ty} {t e:TypeId} {α:Type} {R:Rep α} {bytes:Nat} {z:Value}
theorem Qvf {k:IntKind} {a b:Int} {ts:Array TypeId} (hx:Fct Γ x (tv (.int k a))) (hy:Fct Γ y (tv (.int k b))):OpJ P ⟨d,.call { callee:=.builtin .max,args:=#[x,y],argTypes:=ts },ty,pos,af,g⟩ Γ [] [] (fun _=>[]) (fun _=>tv (.int k (imax a b))):=Qax fun F w A he=>by have h1:=hx.val (by simp[Op.operands,Call.operands]) he;have h2:=hy.val (by simp[Op.operands,Call.operands]) he;exact⟨_,by simp[execOp,resolve,invoke,builtin,Builtin.max_,Builtin.max2,h1,h2,imax],rfl⟩
theorem QjB {k:IntKind} {a b:Int} {ts:Array TypeId} (hx:Fct Γ x (tv (.int k a))) (hy:Fct Γ y (tv (.int k b))):OpJ P ⟨d,.call { callee:=.builtin .min,args:=#[x,y],argTypes:=ts },ty,pos,af,g⟩ Γ [] [] (fun _=>[]) (fun _=>tv (.int k (imin a b))):=Qax fun F w A he=>by have h1:=hx.val (by simp[Op.operands,Call.operands]) he;have h2:=hy.val (by simp[Op.operands,Call.operands]) he;exact⟨_,by simp[execOp,resolve,invoke,builtin,Builtin.min_,Builtin.min2,h1,h2,imin],rfl⟩
inductive Bd (Γ:List (Nat×Ty)):Option Operand→Int→Int→Prop where
 | no (dflt:Int):Bd Γ none dflt dflt
 | op {x:Operand} {k:IntKind} {i dflt:Int} (h:Fct Γ x (tv (.int k i))):Bd Γ (some x) dflt i
theorem Bd.use {b:Option Operand} {i dflt:Int} {xs:Array Operand} {F:Blk} {w:World} {A:Act} (h:Bd Γ b dflt i) (hx:∀y,b=some y→y∈xs) (he:Qg4 Γ xs F w A):(b.map A.eval=none∧i=dflt)∨∃k,b.map A.eval=some (.int k i):=by
 cases h with
 | no=>exact .inl ⟨rfl,rfl⟩
 | op h=>exact .inr ⟨_,ZF some (h.val (hx _ rfl) he)⟩
theorem Qqz {xs ys:List α} {lo hi:Option Operand} {i j:Int} (ht:P.underlying t=some (.slice e)) (hz:TOk P e R bytes z) (hx:Fct Γ x (tsl R xs)) (hlo:Bd Γ lo 0 i) (hhi:Bd Γ hi xs.length j) (h:sub xs i j=some ys):
  OpJ P ⟨d,.slice t x lo hi none,ty,pos,af,g⟩ Γ [] [] (fun _=>[]) (fun _=>tsl R ys):=
 Qax fun F w A he=>by
  obtain⟨ad,cap,hv,hlc,hr⟩:=hx.use (by simp[Op.operands]) he;obtain⟨ti,hti,_,hs,_⟩:=hz.info;unfold sub at h;split at h
  ·rename_i hc;obtain⟨c0,c1,c2⟩:=hc;simp only[ZX] at h;have hb:(Instr.sliceBounds true xs.length cap (lo.map A.eval) (hi.map A.eval) none).run P w=.ok (i.toNat,j.toNat,cap) w:=by
    have ej:((j.toNat:Nat):Int)=j:=by omega
    rcases hlo.use (by rintro y rfl;simp[Op.operands]) he with⟨e1,e2⟩ | ⟨k1,e1⟩<;>rcases hhi.use (by rintro y rfl;simp[Op.operands]) he with⟨f1,f2⟩ | ⟨k2,f1⟩
    ·rw[e1,f1,e2,f2];simp[Instr.sliceBounds]
    ·rw[e1,f1,e2];simp only[Instr.sliceBounds,Sem.run_bind,Sem.run_pure,Zo,run_sliceBound w k2 j cap _ (by omega) (by omega)];rfl
    ·rw[e1,f1,f2];simp only[Instr.sliceBounds,Sem.run_bind,Sem.run_pure,Zo,run_sliceBound w k1 i xs.length _ c0 (by omega)];simp
    ·rw[e1,f1];simp only[Instr.sliceBounds,Sem.run_bind,Sem.run_pure,Zo,run_sliceBound w k2 j cap _ (by omega) (by omega),run_sliceBound w k1 i j.toNat _ c0 (by omega)]
   refine⟨.slice (if cap=i.toNat then ad else ad.map (·.add (i.toNat * R.n))) (j.toNat - i.toNat) (cap - i.toNat),?_,?_⟩
   ·simp[execOp,Instr.sliceAt,run_underlying ht,Instr.slice,hv,hb,sizeOf,typeInfo,hti,hs]
   ·have hyl:ys.length=j.toNat - i.toNat:=by rw[←h];simp;omega
    refine⟨_,cap - i.toNat,by rw[hyl],by omega,fun hne=>?_⟩;have hpos:0<ys.length:=by
     rcases Nat.eq_zero_or_pos ys.length with h0 | h0
     ·exact (hne (ZO h0)).elim
     ·exact h0
    obtain⟨b,off,ha,hb,hrow⟩:=hr (fun hn=>by rw[hn] at c2;simp at c2;omega);refine⟨b,off+i.toNat * R.n,?_,hb,?_⟩
    ·rw[Zd (by omega),ha];simp[QaI]
    ·rw[←h,Row.flatMap_sub R xs _ _ (by omega)];refine (hrow.part (i.toNat * R.n)).head ?_;rw[Yb,take_eq_take_iff];simp
  ·cases h
theorem QaS {xs:List α} {v:Value} {F:Blk} {w:World} (h:(own R e xs v).ok F w):
  (v=.slice none 0 0∧xs=[])∨∃b cap cur,v=.slice (some ⟨b,0,none⟩) xs.length cap∧w.heap[b]?=some (.cells cur e (0,0))∧xs.length≤cap∧cap≤maxLen∧cur.size=cap * R.n∧QQ (xs.flatMap R.cs) F w (cur.toList.take (xs.length * R.n)):=by
 obtain⟨us,ho,hc⟩:=h;rcases ho.2 with⟨hv,hn⟩ | ⟨b,cap,cur,hv,_,hb,h1,h2,h3,h4⟩
 ·exact .inl ⟨hv,ZO hn⟩
 ·exact .inr ⟨b,cap,cur,hv,hb,h1,h2,h3,by rw[h4];exact hc⟩
theorem QfH {xs:List α} {b cap:Nat} {cur:Array Value} {F:Blk} {w:World} (hb:w.heap[b]?=some (.cells cur e (0,0))) (h1:xs.length≤cap) (h2:cap≤maxLen) (h3:cur.size=cap * R.n) (h4:QQ (xs.flatMap R.cs) F w (cur.toList.take (xs.length * R.n))):
  (own R e xs (.slice (some ⟨b,0,none⟩) xs.length cap)).ok F w:=
 ⟨cur.toList.take (xs.length * R.n),⟨by rw[h4.1,Qap],.inr ⟨b,cap,cur,rfl,Nat.zero_le _,hb,h1,h2,h3,rfl⟩⟩,h4⟩
theorem QQ.append {Ts Us:List Ty} {F:Blk} {w:World} {us vs:List Value} (h:QQ Ts F w us) (k:QQ Us F w vs):QQ (Ts++Us) F w (us++vs):=by
 have e1:=h.1;refine⟨by simp[h.1,k.1],fun j T u hT hu=>?_⟩;by_cases hj:j<Ts.length
 ·rw[ZN hj] at hT;rw[ZN (by omega)] at hu;exact h.2 j T u hT hu
 ·rw[ZQ (by omega)] at hT;rw[ZQ (by omega),e1] at hu;exact k.2 _ T u hT hu
theorem Qbu {xs:List α} {k b n c:Nat}:(own R e xs (.slice (some ⟨b,0,none⟩) n c)).fp k↔k=b:=by
 show some b=some k↔k=b;constructor
 ·intro h;cases h;rfl
 ·rintro rfl;rfl
theorem QtT {xs ys:List α} {v:Value} {F F':Blk} {w:World} {ad:Option Addr} {c:Nat} (ht:P.underlying t=some (.slice e)) (hz:TOk P e R bytes z) (hb:bytes≤2048)
  (ho:(own R e xs v).ok F w) (hF:∀k,F k→k<w.heap.size∧¬(own R e xs v).fp k) (hFF:∀k,F k→F' k) (hr:ys≠[]→∃b off,ad=some ⟨b,off,none⟩∧Row (ys.flatMap R.cs) F w b off) (h:rm (xs.length+ys.length)=some ()):
  ∃v' w',(Builtin.append_ #[t,t] ty #[v,.slice ad ys.length c]).run P w=.ok v' w'∧Step (own R e xs v).fp w w'∧(∀k,(own R e (xs++ys) v').fp k→((own R e xs v).fp k∨w.heap.size≤k)∧k<w'.heap.size)∧(own R e (xs++ys) v').ok F' w':=by
 obtain⟨ti,hti,hzz,hs,hbb⟩:=hz.info;have hroom:xs.length+ys.length≤68719476736:=by unfold rm at h;split at h<;>first | assumption | cases h
 have hlt:∀k,(own R e xs v).fp k→k<w.heap.size:=by
  intro k hk;rcases QaS ho with⟨hv,_⟩ | ⟨b,cap,cur,hv,hbk,_⟩
  ·rw[hv] at hk;cases hk
  ·rw[hv] at hk;rw[Qbu.1 hk];exact (Array.getElem?_eq_some_iff.1 hbk).1
 by_cases hy:ys=[]
 ·subst hy;refine⟨v,w,?_,Step.refl _ _,fun k hk=>⟨.inl hk,hlt k hk⟩,?_⟩
  ·rcases QaS ho with⟨hv,hx⟩ | ⟨b,cap,cur,hv,hbk,h1,_⟩
   ·subst hv;cases ad<;>simp[Builtin.append_,run_underlying ht,sizeOf,typeInfo,hti,Builtin.lenOf,Builtin.firstCells,loadCells,loadCellsFrom]
   ·subst hv;cases ad<;>simp[Builtin.append_,run_underlying ht,sizeOf,typeInfo,hti,Builtin.lenOf,Builtin.firstCells,loadCells,loadCellsFrom,h1,storeCells]
  ·rw[Yh];exact Atom.keep _ hFF (fun _ _=>rfl) (fun _ _=>rfl) ho
 ·obtain⟨b,off,ha,hrow⟩:=hr hy;subst ha;obtain⟨news,hcn,hcell⟩:=Qj9 _ _ hrow;have hm:0<ys.length:=by
   rcases Nat.eq_zero_or_pos ys.length with h0 | h0
   ·exact (hy (ZO h0)).elim
   ·exact h0
  have hnl:news.length=ys.length * ti.size:=by rw[hcn.1,Qap,hs]
  have hnews:∀j u,news[j]?=some u→w.cell? ((⟨b,off,none⟩:Addr).add j)=some u:=fun j u hu=>by rw[QaI];exact hcell j u hu
  have hone:∀u∈news,u.oneCell'=true:=by
   intro u hu;obtain⟨j,hj⟩:=Yd.1 hu;have hjl:j<(ys.flatMap R.cs).length:=by rw[←hcn.1];exact (Zf.1 hj).1
   have hT:=hcn.2 j _ u (Zb hjl) hj;obtain⟨q,_,hq⟩:=ZG.1 (Zn hjl);exact R.one q _ hq F w u hT
  have hzn:z.cells.size=R.n:=hz.zc;rcases QaS ho with⟨hv,hx⟩ | ⟨gb,cap,cur,hv,hbk,h1,h2,h3,h4⟩
  ·subst hv;subst hx;simp only[ZS,Nat.zero_add] at hroom;have hbyt:ys.length * ti.bytes≤281474976710656:=by
    rw[hbb]
    calc ys.length * bytes≤68719476736 * 2048:=Nat.mul_le_mul hroom hb
     _≤281474976710656:=by omega
   have hrun:=run_append_nil (P:=P) w t ty e ti z ht hti hzz ⟨b,off,none⟩ ys.length c news hnl hnews hm (by omega) hbyt;have hge:=grownCap_ge w ys.length 0 e;have hle:=grownCap_le_maxLen w ys.length 0 e (by unfold maxLen;omega);refine⟨_,_,hrun,⟨rfl,rfl,rfl,by simp,fun k hk _=>Go.RowKit.Below.heap_alloc w.drew _ k hk⟩,?_,?_⟩
   ·intro k hk;rw[Qbu.1 hk];exact⟨.inr (Zx _),by simp⟩
   ·rw[Yg];refine QfH (cur:=news.toArray++Builtin.zeroCells z.cells (grownCap w ys.length 0 e - ys.length)) (heap_alloc_new w.drew _) hge hle ?_ ?_
    ·simp only[Array.size_append,size_toArray,size_zeroCells,hnl,hzn,hs,←Nat.add_mul];congr 1;omega
    ·have e1:(news.toArray++Builtin.zeroCells z.cells (grownCap w ys.length 0 e - ys.length)).toList.take (ys.length * R.n)=news:=by
      rw[Array.toList_append,take_left' (by rw[hnl,hs])]
     rw[e1];exact hcn.keepE hFF (fun k hk=>Go.RowKit.Below.heap_alloc w.drew _ k (hF k hk).1)
  ·subst hv;have holdl:(cur.toList.take (xs.length * R.n)).length=xs.length * ti.size:=by rw[h4.1,Qap,hs]
   have hxl:xs.length * R.n≤cur.size:=by rw[h3];exact Nat.mul_le_mul_right _ h1
   by_cases hcap:xs.length+ys.length≤cap
   ·have hfit:xs.length * ti.size+news.length≤cur.size:=by rw[hnl,h3,hs,←Nat.add_mul];exact Nat.mul_le_mul_right _ hcap
    have hrun:=run_append_room (P:=P) w t ty e ti ht hti gb xs.length cap cur hbk ⟨b,off,none⟩ ys.length c news hnl hnews hone hcap hfit;refine⟨_,_,hrun,Qet (Qbu.2 rfl),?_,?_⟩
    ·intro k hk;rw[Qbu.1 hk];exact⟨.inl (Qbu.2 rfl),by simpa using (Array.getElem?_eq_some_iff.1 hbk).1⟩
    ·rw[←Zi];refine QfH (setRow_heap w gb cur _ e _ hbk) (by simpa using hcap) h2 ?_ ?_
     ·simp only[size_toArray,Zi,Yb,Ys,Array.length_toList,hs];rw[hs] at hfit;omega
     ·have e1:(cur.toList.take (xs.length * ti.size)++news++cur.toList.drop (xs.length * ti.size+news.length)).take ((xs++ys).length * R.n)=cur.toList.take (xs.length * R.n)++news:=by
       rw[hs];refine take_left' ?_;rw[Zi,hnl,hs,Yb,Zi,Nat.add_mul];simp;omega
      simp only;rw[e1,ZM];refine (h4.append hcn).keepE hFF (fun k hk=>setRow_other w gb k _ (fun e=>?_));exact (hF k hk).2 (Qbu.2 e)
   ·have hbyt:(xs.length+ys.length) * ti.bytes≤140737488355328:=by
     rw[hbb]
     calc (xs.length+ys.length) * bytes≤68719476736 * 2048:=Nat.mul_le_mul hroom hb
      _≤140737488355328:=by omega
    have holds:∀j u,(cur.toList.take (xs.length * R.n))[j]?=some u→w.cell? ((⟨gb,0,none⟩:Addr).add j)=some u:=by
     intro j u hu;rw[getElem?_take] at hu;split at hu
     ·rw[QaI,Nat.zero_add];simpa[World.cell?,hbk] using hu
     ·cases hu
    have hrun:=run_append_grow (P:=P) w t ty e ti z ht hti hzz ⟨gb,0,none⟩ xs.length cap _ holdl holds ⟨b,off,none⟩ ys.length c news hnl hnews (by omega) (by omega) (growslice_fits (by omega) hbyt);have hge:=grownCap_ge w (xs.length+ys.length) cap e;have hle:=grownCap_le_maxLen w (xs.length+ys.length) cap e (by unfold maxLen;omega);refine⟨_,_,hrun,⟨rfl,rfl,rfl,by simp,fun k hk _=>Go.RowKit.Below.heap_alloc w.drew _ k hk⟩,?_,?_⟩
    ·intro k hk;rw[Qbu.1 hk];exact⟨.inr (Zx _),by simp⟩
    ·have el:xs.length+ys.length=(xs++ys).length:=by simp
     have hge':=hge;rw[el] at hge' hle ⊢;refine QfH (heap_alloc_new w.drew _) hge' hle ?_ ?_
     ·simp only[Array.size_append,size_toArray,size_zeroCells,holdl,hnl,hzn,hs,←Nat.add_mul];congr 1;omega
     ·have e1:(((cur.toList.take (xs.length * R.n)).toArray++news.toArray++Builtin.zeroCells z.cells (grownCap w (xs++ys).length cap e - (xs++ys).length)).toList).take ((xs++ys).length * R.n)=cur.toList.take (xs.length * R.n)++news:=by
       rw[Array.toList_append,Array.toList_append];refine take_left' ?_;simp only[Zi,holdl,hnl,hs,Nat.add_mul]
      rw[e1,ZM];exact (h4.append hcn).keepE hFF (fun k hk=>Go.RowKit.Below.heap_alloc w.drew _ k (hF k hk).1)
theorem QaL {xs ys:List α} {v:Value} (ht:P.underlying t=some (.slice e)) (hz:TOk P e R bytes z) (hb:bytes≤2048) (hx:Fct Γ x (tv v)) (hy:Fct Γ y (tsl R ys)) (h:rm (xs.length+ys.length)=some ()):
  OpJ P ⟨d,.call { callee:=.builtin .append,args:=#[x,y],argTypes:=#[t,t] },ty,pos,af,g⟩ Γ [] [own R e xs v] (fun v'=>[own R e (xs++ys) v']) (fun v'=>tv v'):=by
 intro M w A hM _ hE _ _ he;obtain⟨ho,hfp⟩:=hE _ (Ze.2 rfl);have hgiv:=QdI hE;have h1:=hx.val (by simp[Op.operands,Call.operands]) he;obtain⟨ad,cap,h2,_,hr⟩:=hy.use (by simp[Op.operands,Call.operands]) he;obtain⟨v',w',hrun,hstep,hfp',hok⟩:=QtT (ty:=ty) (c:=cap) (F:=free M w) (F':=fun k=>k<w.heap.size∧¬M k) ht hz hb ho (fun k hk=>⟨hk.1,fun hf=>hk.2 (hfp k hf)⟩) (fun k hk=>hk)
  (fun hne=>let⟨b,off,ha,_,hrow⟩:=hr hne;⟨b,off,ha,hrow⟩) h
 have hexec:(execOp A.eval (⟨d,.call { callee:=.builtin .append,args:=#[x,y],argTypes:=#[t,t] },ty,pos,af,g⟩:Oper)).run P w=.ok (.value v') w':=by simp only[execOp,resolve,invoke,builtin,Sem.run_bind,Sem.run_pure,Zo,map_toArray,Yi,Yz,h1,h2,hrun]
 simp only[Does,hexec];refine⟨v',hstep.mono (fun k hk=>Qan.2 hk),Qcs (fun k hk=>⟨(hfp' k hk).1.imp Qan.2 id,(hfp' k hk).2⟩) ?_,rfl⟩;refine Atom.keep _ (fun k hk=>?_) (fun _ _=>rfl) (fun _ _=>rfl) hok;refine Qc8 hstep.size hgiv (fun B hB j hj=>?_) hk;obtain rfl:=Ze.1 hB;exact (hfp' j hj).1.imp Qan.2 id
theorem Qa0.of {U:List Atom} (h:Fct Γ x T):Qa0 Γ U x T:=fun F _ w a hF _ h0=>T.keep hF (fun _ _=>rfl) (h F w a h0)
theorem Qa0.own {U:List Atom} {xs:List α} {v:Value} (h:Fct Γ x (tv v)) (hU:own R e xs v∈U):Qa0 Γ U x (tsl R xs):=by
 intro F F' w a hF hA h0;have hv:a.eval x=v:=h F w a h0;obtain⟨hok,hfp⟩:=hA _ hU;rw[hv];rcases QaS hok with⟨hvv,hx⟩ | ⟨b,cap,cur,hvv,hb,h1,h2,h3,h4⟩
 ·subst hx;exact⟨none,0,hvv,Zx _,fun h=>(h rfl).elim⟩
 ·refine⟨_,cap,hvv,h1,fun _=>⟨b,0,rfl,hfp b (by rw[hvv];exact Qbu.2 rfl),fun j T hT=>?_⟩⟩;have hj:j<(cur.toList.take (xs.length * R.n)).length:=by rw[h4.1];exact (Zf.1 hT).1
  refine⟨(cur.toList.take (xs.length * R.n))[j],?_,T.keep hF (fun _ _=>rfl) (h4.2 j T _ hT (Zb hj))⟩;have hj2:j<cur.size:=by simp at hj;omega
  simp[World.cell?,hb,hj2]
theorem Qa0.box {U:List Atom} {Ts:List Ty} {q:Value} (h:Fct Γ x (tv q)) (hU:box Ts q∈U):Qa0 Γ U x (tand (tv q) (tptr Ts)):=by intro F F' w a hF hA h0;have hv:a.eval x=q:=h F w a h0;obtain⟨hok,hfp⟩:=hA _ hU;obtain⟨b,hq,hrow⟩:=QgR hok;refine⟨hv,b,0,hv.trans hq,hfp b hq,fun j T hj=>?_⟩;obtain⟨u,hu,ht⟩:=hrow j T hj;exact⟨u,hu,T.keep hF (fun _ _=>rfl) ht⟩
theorem Fct.fn {f:FuncId}:Fct Γ (.func f) (tclo f [] []):=fun _ _ _ _=>⟨rfl,rfl,fun j T u h=>by simp at h⟩
inductive Capt (U:List Atom):List Value→List Ty→Prop where
 | nil:Capt U [] []
 | box {q:Value} {Ts:List Ty} {qs:List Value} {Tc:List Ty} (hU:Sim.box Ts q∈U) (hs:Capt U qs Tc):Capt U (q::qs) (tand (tv q) (tptr Ts)::Tc)
 | val {q:Value} {qs:List Value} {Tc:List Ty} (hs:Capt U qs Tc):Capt U (q::qs) (tv q::Tc)
theorem Capt.cells {U:List Atom} {qs:List Value} {Tc:List Ty} (h:Capt U qs Tc) {F F':Blk} {w:World} (hF:∀k,F k→F' k) (hA:∀A∈U,A.ok F w∧∀k,A.fp k→F' k):QQ Tc F' w qs:=by
 induction h with
 | nil=>exact⟨rfl,fun j T u h=>by simp at h⟩
 | @box q Ts qs Tc hU hs ih=>
  obtain⟨hok,hfp⟩:=hA _ hU;obtain⟨b,hq,hrow⟩:=QgR hok;refine⟨by simp[ih.1],fun j T u hT hu=>?_⟩
  cases j with
  | zero=>simp at hT hu;subst hT;subst hu;refine⟨rfl,b,0,hq,hfp b hq,fun j T hj=>?_⟩;obtain⟨u,hu,ht⟩:=hrow j T hj;exact⟨u,hu,T.keep hF (fun _ _=>rfl) ht⟩
  | succ j=>exact ih.2 j T u (by simpa using hT) (by simpa using hu)
 | @val q qs Tc hs ih=>
  refine⟨by simp[ih.1],fun j T u hT hu=>?_⟩
  cases j with
  | zero=>simp at hT hu;subst hT;subst hu;exact rfl
  | succ j=>exact ih.2 j T u (by simpa using hT) (by simpa using hu)
theorem Args.cells {U:List Atom} {xs:List Operand} {Ts:List Ty} {F F':Blk} {w:World} {a:Act} (h:Args Γ U xs Ts) (hF:∀k,F k→F' k) (hU:∀A∈U,A.ok F w∧∀k,A.fp k→F' k) (he:∀p∈Γ,Operand.tmp p.1∈xs→p.2.ok F w (get a p.1)):
  QQ Ts F' w (xs.map a.eval):=by
 induction h with
 | nil=>exact⟨rfl,fun j T u h=>by simp at h⟩
 | @cons x T xs Ts h hs ih=>
  have h1:=h F F' w a hF hU (fun p hp e=>he p hp (by rw[e];simp));have h2:=ih (fun p hp e=>he p hp (by simp[e]));refine⟨by simp[h2.1],fun j T' u hT hu=>?_⟩
  cases j with
  | zero=>simp at hT hu;subst hT;subst hu;exact h1
  | succ j=>exact h2.2 j T' u (by simpa using hT) (by simpa using hu)
theorem Qkb {f:Operand} {fid:FuncId} {caps:List Value} {xs:List Operand} {ts:Array TypeId} {w:World} {a:Act} (hc:Qj P fid) (hf:a.eval f=.func (.func fid) #[] caps.toArray):
  (execOp a.eval (⟨d,.call { callee:=.value f,args:=xs.toArray,argTypes:=ts },ty,pos,af,g⟩:Oper)).run P w=.ok (.enter fid (xs.map a.eval++caps).toArray) w:=by
 obtain⟨fn,h1,h2,h3⟩:=hc;simp only[execOp,resolve,Deferred.ofValue,hf,invoke,callFunc,Sem.run_bind,Sem.run_pure,run_program,Zo,h1,h2,h3,ZU,if_false,map_toArray];simp
theorem Qz3 {f:Operand} {fid:FuncId} {caps:List Value} {Tc Ts:List Ty} {xs:List Operand} {ts:Array TypeId} {E:List Atom} {N:Value→List Atom} {T:Value→Ty} (hc:Qj P fid) (hfn:FnOk P fid (Ts++Tc) E N T)
  (hf:Fct Γ f (tclo fid caps Tc)) (ha:Args Γ [] xs Ts):OpJ P ⟨d,.call { callee:=.value f,args:=xs.toArray,argTypes:=ts },ty,pos,af,g⟩ Γ [] E N T:=by
 intro M w a hM _ hE hap _ he;obtain⟨hfv,hcap⟩:=hf.use (by simp[Op.operands,Call.operands]) he;have hargs:=ha.cells (F:=free M w) (F':=free M w) (a:=a) (fun _ h=>h) (fun A hA=>by simp at hA) (fun p hp hx=>he p hp (by simp[Op.operands,Call.operands,hx]));have hcells:=hargs.append hcap;simp only[Does,Qkb hc hfv];refine Calls.mono (hfn M w _ hM hE hap hcells) ?_;rintro e w' ⟨x,v,he,h⟩;exact⟨v,he,x,h⟩
theorem QxV {f:Operand} {fid:FuncId} {caps:List Value} {Tc Ts:List Ty} {xs:List Operand} {ts:Array TypeId} {E:List Atom} {N:Value→List Atom} {T:Value→Ty} (U:List Atom) (hc:Qj P fid) (hfn:FnOk P fid (Ts++Tc) E N T)
  (hf:Qa0 Γ U f (tclo fid caps Tc)) (ha:Args Γ U xs Ts) (hT:∀x,Qg7 (T x)) (hN:∀x,∀A∈N x,Qka A):OpJ P ⟨d,.call { callee:=.value f,args:=xs.toArray,argTypes:=ts },ty,pos,af,g⟩ Γ U E N T:=by
 intro M w a hM hU hE hap hUE he;have hM':∀k,(M k∧¬∃A∈U,A.fp k)→k<w.heap.size:=fun k h=>hM k h.1;have hsub:∀k,free M w k→free (fun k=>M k∧¬∃A∈U,A.fp k) w k:=fun k h=>⟨h.1,fun hm=>h.2 hm.1⟩;have hUF:∀A∈U,A.ok (free M w) w∧∀k,A.fp k→free (fun k=>M k∧¬∃A∈U,A.fp k) w k:=fun A hA=>⟨(hU A hA).1,fun k hk=>⟨hM k ((hU A hA).2 k hk),fun hm=>hm.2 ⟨A,hA,hk⟩⟩⟩;have hE':Qe5 (fun k=>M k∧¬∃A∈U,A.fp k) E w:=fun B hB=>⟨B.keep hsub (fun _ _=>rfl) (fun _ _=>rfl) (hE B hB).1,fun k hk=>⟨(hE B hB).2 k hk,fun⟨A,hA,hkA⟩=>hUE A hA B hB k hkA hk⟩⟩;obtain⟨hfv,hcap⟩:=hf (free M w) _ w a hsub hUF (fun p hp hx=>he p hp (by simp[Op.operands,Call.operands,hx]));have hargs:=ha.cells (a:=a) hsub hUF (fun p hp hx=>he p hp (by simp[Op.operands,Call.operands,hx]));have hcells:=hargs.append hcap;simp only[Does,Qkb hc hfv];refine Calls.mono (hfn _ w _ hM' hE' hap hcells) ?_;rintro e w' ⟨x,v,he,hg,hN',hT'⟩;exact⟨v,he,x,hg,⟨hN'.apart,hN'.place,fun A hA=>hN x A hA _ _ _ (hN'.ok A hA)⟩,hT x _ _ _ _ hT'⟩
end
section
variable {σ ρ:Type}
def iter (body:σ→Option (σ⊕ρ)):Nat→σ→Option ρ
 | 0,_=>none
 | n+1,s=>match body s with
  | none=>none
  | some (.inl s')=>iter body n s'
  | some (.inr r)=>some r
theorem QxW (body:σ→Option (σ⊕ρ)):∀(n m:Nat) (s:σ) (r q:ρ),iter body n s=some r→iter body m s=some q→r=q:=by
 intro n
 induction n with
 | zero=>intro m s r q h;cases h
 | succ n ih=>
  intro m s r q h k
  cases m with
  | zero=>cases k
  | succ m=>
   simp only[iter] at h k
   cases hb:body s with
   | none=>rw[hb] at h;cases h
   | some o=>
    rw[hb] at h k
    cases o with
    | inl s'=>exact ih m s' r q h k
    | inr r'=>simp only[ZX] at h k;rw[←h,←k]
open Classical in
noncomputable def Ql (body:σ→Option (σ⊕ρ)) (s:σ):Option ρ:=if h:∃r n,iter body n s=some r then some h.choose else none
theorem QcB {body:σ→Option (σ⊕ρ)} {s:σ} {r:ρ}:Ql body s=some r↔∃n,iter body n s=some r:=by
 unfold Ql;constructor
 ·intro h;split at h
  ·rename_i hx;simp only[ZX] at h;rw[←h];exact hx.choose_spec
  ·cases h
 ·rintro ⟨n,hn⟩;have hx:∃r n,iter body n s=some r:=⟨r,n,hn⟩;rw[dif_pos hx];obtain⟨m,hm⟩:=hx.choose_spec;exact ZF some (QxW body m n s _ _ hm hn)
theorem Qas (body:σ→Option (σ⊕ρ)) (s:σ):Ql body s=match body s with | none=>none | some (.inl s')=>Ql body s' | some (.inr r)=>some r:=by
 cases hb:body s with
 | none=>
  simp only
  cases ht:Ql body s with
  | none=>rfl
  | some r=>
   obtain⟨n,hn⟩:=QcB.1 ht
   cases n with
   | zero=>cases hn
   | succ n=>simp[iter,hb] at hn
 | some o=>
  cases o with
  | inr r=>exact QcB.2 ⟨1,by simp[iter,hb]⟩
  | inl s'=>
   simp only
   cases ht:Ql body s' with
   | some r=>obtain⟨n,hn⟩:=QcB.1 ht;exact QcB.2 ⟨n+1,by simp[iter,hb,hn]⟩
   | none=>
    cases hs:Ql body s with
    | none=>rfl
    | some r=>
     obtain⟨n,hn⟩:=QcB.1 hs
     cases n with
     | zero=>cases hn
     | succ n=>simp only[iter,hb] at hn;rw[QcB.2 ⟨n,hn⟩] at ht;cases ht
end
def bind_some {α β:Type} {x:Option α} {f:α→Option β} {r:β} (h:x.bind f=some r):∃a,x=some a∧f a=some r:=by
 cases x with
 | none=>cases h
 | some a=>exact⟨a,rfl,h⟩
def QcM {α:Type} {b:Bool} {x y:Option α} {r:α} (hb:b=true) (h:(if b=true then x else y)=some r):x=some r:=by rw[Zc hb] at h;exact h
def QcN {α:Type} {b:Bool} {x y:Option α} {r:α} (hb:b=false) (h:(if b=true then x else y)=some r):y=some r:=by rw[hb] at h;exact h
def opt {α:Type} (c:Bool) (x:Option α) (dflt:α):Option α:=if c=true then x else some dflt
def Qex {α:Type} {c:Bool} {x:Option α} {dflt r:α} (h:opt c x dflt=some r) (hc:c=true):x=some r:=by unfold opt at h;rw[Zc hc] at h;exact h
@[reducible] def v0 (A : Atom) : Ver := ⟨[],fun _ => A⟩
@[reducible] def v1 (i : Nat) (f : Value → Atom) : Ver := ⟨[i],fun l => f (l.getD 0 undef)⟩
@[reducible] def v2 (i j : Nat) (f : Value → Value → Atom) : Ver := ⟨[i,j],fun l => f (l.getD 0 undef) (l.getD 1 undef)⟩
@[reducible] def v3 (i j k : Nat) (f : Value → Value → Value → Atom) : Ver := ⟨[i,j,k],fun l => f (l.getD 0 undef) (l.getD 1 undef) (l.getD 2 undef)⟩
section
variable {P:Program} {ops:List Oper} {V:List Ver} {new:Nat→Value} {i:Nat} {Γ:List (Nat×Ty)} {o:Oper} {os:List Oper} {is:List Info}
theorem Run.x {U E:List Atom} {N:Value→List Atom} {T':Value→Ty} {Tn:Ty} (T:TyN) (us es ms:List Nat) (hU:us.map (fun u=>ver V u new)=U) (hE:es.map (fun u=>ver V u new)=E) (hN:(fun x=>ms.map fun u=>ver V u (upd new i x))=N)
  (hT:(fun x=>T.ty (upd new i x))=T') (hTn:T.ty new=Tn) (hg:o.guard=none) (h:OpJ P o Γ U E N T') (hs:Run P ops V new (i+1) (addD o.dst Tn Γ) os is):Run P ops V new i Γ (o::os) (⟨T,us,es,ms⟩::is):=
 .step (.plain hg (by subst hU;subst hE;subst hN;subst hT;exact h)) (by subst hTn;exact hs)
theorem Run.p {T:Ty} (hg:o.guard=none) (h:OpJ P o Γ [] [] (fun _=>[]) (fun _=>T)) (hs:Run P ops V new (i+1) (addD o.dst T Γ) os is):Run P ops V new i Γ (o::os) (⟨⟨[],fun _=>T⟩,[],[],[]⟩::is):=.step (.plain hg h) hs
theorem Run.q {d:Option Tmp} {ty:TypeId} {pos:String} {af:Array Edge} {t:Nat} {T:Ty} (k:Nat) (h:Γ[k]?=some (t,T)) (hs:Run P ops V new (i+1) (addD d T Γ) os is):Run P ops V new i Γ (⟨d,.move (.tmp t),ty,pos,af,none⟩::os) (⟨⟨[],fun _=>T⟩,[],[],[]⟩::is):=.p rfl (Qad (.t k h)) hs
theorem Run.u {T:Ty} {U:List Atom} (us:List Nat) (hU:us.map (fun u=>ver V u new)=U) (hg:o.guard=none) (h:OpJ P o Γ U [] (fun _=>[]) (fun _=>T)) (hs:Run P ops V new (i+1) (addD o.dst T Γ) os is):
  Run P ops V new i Γ (o::os) (⟨⟨[],fun _=>T⟩,us,[],[]⟩::is):=
 .step (.plain hg (by subst hU;exact h)) hs
theorem Run.ud {f:Value→Ty} {U:List Atom} (j:Nat) (hj:Nat.beq j i=false) (us:List Nat) (hU:us.map (fun u=>ver V u new)=U) (hg:o.guard=none) (h:OpJ P o Γ U [] (fun _=>[]) (fun _=>f (new j))) (hs:Run P ops V new (i+1) (addD o.dst (f (new j)) Γ) os is):
  Run P ops V new i Γ (o::os) (⟨⟨[j],fun l=>f (l.getD 0 undef)⟩,us,[],[]⟩::is):=
 .step (.plain hg (by
  have e:(fun x=>TyN.ty (upd new i x) ⟨[j],fun l=>f (l.getD 0 undef)⟩)=fun _=>f (new j):=by
   funext x
   show f (upd new i x j)=_;rw[QfG (Nat.ne_of_beq_eq_false hj)]
  subst hU;rw[e];exact h)) hs
theorem Run.pd {f:Value→Ty} (j:Nat) (hj:Nat.beq j i=false) (hg:o.guard=none) (h:OpJ P o Γ [] [] (fun _=>[]) (fun _=>f (new j))) (hs:Run P ops V new (i+1) (addD o.dst (f (new j)) Γ) os is): Run P ops V new i Γ (o::os) (⟨⟨[j],fun l=>f (l.getD 0 undef)⟩,[],[],[]⟩::is):=Run.ud j hj [] rfl hg h hs
theorem Run.e {f:Value→Ty} {U E:List Atom} {N:Value→List Atom} (us es ms:List Nat) (hU:us.map (fun u=>ver V u new)=U) (hE:es.map (fun u=>ver V u new)=E) (hN:(fun x=>ms.map fun u=>ver V u (upd new i x))=N) (hg:o.guard=none) (h:OpJ P o Γ U E N f)
  (hs:Run P ops V new (i+1) (addD o.dst (f (new i)) Γ) os is):Run P ops V new i Γ (o::os) (⟨⟨[i],fun l=>f (l.getD 0 undef)⟩,us,es,ms⟩::is):=
 .step (.plain hg (by
  have e:(fun x=>TyN.ty (upd new i x) ⟨[i],fun l=>f (l.getD 0 undef)⟩)=f:=by
   funext x
   show f (upd new i x i)=_;rw[Qj8]
  subst hU;subst hE;subst hN;rw[e];exact h)) hs
theorem Run.m {f:Value→Ty} {U:List Atom} {N:Value→List Atom} (us ms:List Nat) (hU:us.map (fun u=>ver V u new)=U) (hN:(fun x=>ms.map fun u=>ver V u (upd new i x))=N) (hg:o.guard=none) (h:OpJ P o Γ U [] N f) (hs:Run P ops V new (i+1) (addD o.dst (f (new i)) Γ) os is):Run P ops V new i Γ (o::os) (⟨⟨[i],fun l=>f (l.getD 0 undef)⟩,us,[],ms⟩::is):=Run.e us [] ms hU rfl hN hg h hs
theorem Run.g {T:Ty} {g dg:Nat} {want c:Bool} (hg:o.guard=some (g,want)) (hd:(ops[g]?).bind (·.dst)=some dg) (hc:Grd Γ dg want c) (h:c=true→OpJ P o Γ [] [] (fun _=>[]) (fun _=>T))
  (hs:Run P ops V new (i+1) (addD o.dst (Qds c T) Γ) os is):Run P ops V new i Γ (o::os) (⟨⟨[],fun _=>Qds c T⟩,[],[],[]⟩::is):=
 .step (.guard g want dg c T hg hd hc rfl rfl rfl (by simp) h) hs
theorem Run.gu {T:Ty} {U:List Atom} {g dg:Nat} {want c:Bool} (us:List Nat) (hU:us.map (fun u=>ver V u new)=U) (hg:o.guard=some (g,want)) (hd:(ops[g]?).bind (·.dst)=some dg) (hc:Grd Γ dg want c) (h:c=true→OpJ P o Γ U [] (fun _=>[]) (fun _=>T))
  (hs:Run P ops V new (i+1) (addD o.dst (Qds c T) Γ) os is):Run P ops V new i Γ (o::os) (⟨⟨[],fun _=>Qds c T⟩,us,[],[]⟩::is):=
 .step (.guard g want dg c T hg hd hc rfl rfl rfl (by simp) (by subst hU;exact h)) hs
theorem Run.ge {f:Value→Ty} {U E:List Atom} {N:Bool→Value→List Atom} {g dg:Nat} {want c:Bool} (us es ms:List Nat) (hU:us.map (fun u=>ver V u new)=U) (hE:es.map (fun u=>ver V u new)=E) (hN:(fun x=>ms.map fun u=>ver V u (upd new i x))=N c)
  (hg:o.guard=some (g,want)) (hd:(ops[g]?).bind (·.dst)=some dg) (hc:Grd Γ dg want c) (h:c=true→OpJ P o Γ U E (N true) f) (h0:N false undef=E) (hs:Run P ops V new (i+1) (addD o.dst (Qds c (f (new i))) Γ) os is):
  Run P ops V new i Γ (o::os) (⟨⟨[i],fun l=>Qds c (f (l.getD 0 undef))⟩,us,es,ms⟩::is):=
 .step (.guardE g want dg c hg hd hc (fun hct=>by
   have e:(fun x=>TyN.ty (upd new i x) ⟨[i],fun l=>Qds c (f (l.getD 0 undef))⟩)=fun x=>Qds c (f x):=by
    funext x
    show Qds c (f (upd new i x i))=_;rw[Qj8]
   rw[e];simp only[hU,hE,hN];intro M w a h1 h2 h3 h4 h5 h6;have:=h hct M w a h1 h2 h3 h4 h5 h6;rw[hct];refine this.mono ?_;rintro v w' ⟨x,hs,hm,ht⟩;exact⟨x,hs,hm,fun _=>ht,fun hf=>by cases hf⟩) (fun hcf=>by
   have e1:(ms.map fun u=>ver V u (upd new i undef))=N c undef:=congrFun hN undef;refine⟨?_,?_⟩
   ·show (ms.map fun u=>ver V u (upd new i undef))=es.map fun u=>ver V u new;rw[e1,hE,hcf,h0]
   ·intro F w;show (Qds c (f (upd new i undef i))).ok F w undef;rw[hcf];exact⟨fun hf=>(by cases hf),fun _=>rfl⟩)) hs
end
def verA (As:List Atom) (Ns:List Ver):List Ver:=As.map v0++Ns
def QqA (As:List Atom) (Ns:List Ver) (u:Nat) (A:Atom) (h:As[u]?=some A) (x:Nat→Value):ver (verA As Ns) u x=A:=by have hu:u<As.length:=(Zf.1 h).1;have h':As[u]=A:=(Zf.1 h).2;simp[ver,verA,ZN,hu,h']
def QcR {P:Program} {ops:List Oper} {M:Fr} {w0:World} {n:Nat} {Γ:List (Nat×Ty)} {As:List Atom} {a:Act} {w:World} {id:Nat} {draw:Bool} {Q:Exit→Act→World→Prop} {is:List Info} (hm:P.follows .mixedOrders=true) (Ns:List Ver)
  (hst:St M w0 n Γ As a w) (hrun:∀new,Run P ops (verA As Ns) new 0 Γ ops is) (hchk:chk ops is ((verA As Ns).map (·.ds)) (Γ.map (·.1)) As.length (verA As Ns).length n=true)
  (hQ:∀new a' w',St M w0 n (outG ops is Γ new) (Qd9 (verA As Ns) is new) a' w'→Q .normal a' w'):(Code.region id ops.toArray draw).wp P Q a w:=
 QpR _ is hm hst hrun (fun u A h x=>QqA As Ns u A h x) hchk hQ
def wr {P:Program} {ops:List Oper} {M:Fr} {w0:World} {n:Nat} {Γ:List (Nat×Ty)} {As:List Atom} {a:Act} {w:World} {id:Nat} {draw:Bool} {Q:Exit→Act→World→Prop} {is:List Info} (hm:P.follows .mixedOrders=true) (Ns:List Ver)
  (hst:St M w0 n Γ As a w) (hrun:∀new,Run P ops (verA As Ns) new 0 Γ ops is) (hQ:∀new a' w',St M w0 n (outG ops is Γ new) (Qd9 (verA As Ns) is new) a' w'→Q .normal a' w')
  (hchk:chk ops is ((verA As Ns).map (·.ds)) (Γ.map (·.1)) As.length (verA As Ns).length n=true:=by kernel_rfl):(Code.region id ops.toArray draw).wp P Q a w:=QcR hm Ns hst hrun hchk hQ
def sr {P:Program} {ops:List Oper} {M:Fr} {w0:World} {n:Nat} {Γ:List (Nat×Ty)} {As:List Atom} {a:Act} {w:World} {id:Nat} {draw:Bool} {Q:Exit→Act→World→Prop} {is:List Info} {c:Code} (hm:P.follows .mixedOrders=true) (Ns:List Ver)
  (hst:St M w0 n Γ As a w) (hrun:∀new,Run P ops (verA As Ns) new 0 Γ ops is) (hQ:∀new a' w',St M w0 n (outG ops is Γ new) (Qd9 (verA As Ns) is new) a' w'→c.wp P Q a' w')
  (hchk:chk ops is ((verA As Ns).map (·.ds)) (Γ.map (·.1)) As.length (verA As Ns).length n=true:=by kernel_rfl):(Code.seq (Code.region id ops.toArray draw) c).wp P Q a w:=wp_seq (QcR hm Ns hst hrun hchk hQ)
section
variable {P:Program} {s:Nat} {T:Ty} {Γ:List (Nat×Ty)} {e0 e1 e2 e3 e4 e5 e6 e7 e8 e9 e10 e11 e12 e13 e14 e15 e16 e17 e18 e19 e20 e21 e22 e23 e24 e25 e26 e27 e28 e29:Nat×Ty}
theorem z0:Fct ((s,T)::Γ) (.tmp s) T:=.t 0 rfl
theorem z1:Fct (e0::(s,T)::Γ) (.tmp s) T:=.t 1 rfl
theorem z2:Fct (e0::e1::(s,T)::Γ) (.tmp s) T:=.t 2 rfl
theorem z3:Fct (e0::e1::e2::(s,T)::Γ) (.tmp s) T:=.t 3 rfl
theorem z4:Fct (e0::e1::e2::e3::(s,T)::Γ) (.tmp s) T:=.t 4 rfl
theorem z5:Fct (e0::e1::e2::e3::e4::(s,T)::Γ) (.tmp s) T:=.t 5 rfl
theorem z6:Fct (e0::e1::e2::e3::e4::e5::(s,T)::Γ) (.tmp s) T:=.t 6 rfl
theorem z7:Fct (e0::e1::e2::e3::e4::e5::e6::(s,T)::Γ) (.tmp s) T:=.t 7 rfl
theorem z8:Fct (e0::e1::e2::e3::e4::e5::e6::e7::(s,T)::Γ) (.tmp s) T:=.t 8 rfl
theorem z9:Fct (e0::e1::e2::e3::e4::e5::e6::e7::e8::(s,T)::Γ) (.tmp s) T:=.t 9 rfl
theorem z10:Fct (e0::e1::e2::e3::e4::e5::e6::e7::e8::e9::(s,T)::Γ) (.tmp s) T:=.t 10 rfl
theorem z11:Fct (e0::e1::e2::e3::e4::e5::e6::e7::e8::e9::e10::(s,T)::Γ) (.tmp s) T:=.t 11 rfl
theorem z12:Fct (e0::e1::e2::e3::e4::e5::e6::e7::e8::e9::e10::e11::(s,T)::Γ) (.tmp s) T:=.t 12 rfl
theorem z13:Fct (e0::e1::e2::e3::e4::e5::e6::e7::e8::e9::e10::e11::e12::(s,T)::Γ) (.tmp s) T:=.t 13 rfl
theorem z14:Fct (e0::e1::e2::e3::e4::e5::e6::e7::e8::e9::e10::e11::e12::e13::(s,T)::Γ) (.tmp s) T:=.t 14 rfl
theorem z15:Fct (e0::e1::e2::e3::e4::e5::e6::e7::e8::e9::e10::e11::e12::e13::e14::(s,T)::Γ) (.tmp s) T:=.t 15 rfl
theorem z16:Fct (e0::e1::e2::e3::e4::e5::e6::e7::e8::e9::e10::e11::e12::e13::e14::e15::(s,T)::Γ) (.tmp s) T:=.t 16 rfl
theorem z17:Fct (e0::e1::e2::e3::e4::e5::e6::e7::e8::e9::e10::e11::e12::e13::e14::e15::e16::(s,T)::Γ) (.tmp s) T:=.t 17 rfl
theorem z18:Fct (e0::e1::e2::e3::e4::e5::e6::e7::e8::e9::e10::e11::e12::e13::e14::e15::e16::e17::(s,T)::Γ) (.tmp s) T:=.t 18 rfl
theorem z19:Fct (e0::e1::e2::e3::e4::e5::e6::e7::e8::e9::e10::e11::e12::e13::e14::e15::e16::e17::e18::(s,T)::Γ) (.tmp s) T:=.t 19 rfl
theorem z20:Fct (e0::e1::e2::e3::e4::e5::e6::e7::e8::e9::e10::e11::e12::e13::e14::e15::e16::e17::e18::e19::(s,T)::Γ) (.tmp s) T:=.t 20 rfl
theorem z21:Fct (e0::e1::e2::e3::e4::e5::e6::e7::e8::e9::e10::e11::e12::e13::e14::e15::e16::e17::e18::e19::e20::(s,T)::Γ) (.tmp s) T:=.t 21 rfl
theorem z22:Fct (e0::e1::e2::e3::e4::e5::e6::e7::e8::e9::e10::e11::e12::e13::e14::e15::e16::e17::e18::e19::e20::e21::(s,T)::Γ) (.tmp s) T:=.t 22 rfl
theorem z23:Fct (e0::e1::e2::e3::e4::e5::e6::e7::e8::e9::e10::e11::e12::e13::e14::e15::e16::e17::e18::e19::e20::e21::e22::(s,T)::Γ) (.tmp s) T:=.t 23 rfl
theorem z25:Fct (e0::e1::e2::e3::e4::e5::e6::e7::e8::e9::e10::e11::e12::e13::e14::e15::e16::e17::e18::e19::e20::e21::e22::e23::e24::(s,T)::Γ) (.tmp s) T:=.t 25 rfl
theorem z28:Fct (e0::e1::e2::e3::e4::e5::e6::e7::e8::e9::e10::e11::e12::e13::e14::e15::e16::e17::e18::e19::e20::e21::e22::e23::e24::e25::e26::e27::(s,T)::Γ) (.tmp s) T:=.t 28 rfl
theorem z29:Fct (e0::e1::e2::e3::e4::e5::e6::e7::e8::e9::e10::e11::e12::e13::e14::e15::e16::e17::e18::e19::e20::e21::e22::e23::e24::e25::e26::e27::e28::(s,T)::Γ) (.tmp s) T:=.t 29 rfl
end
def Run.n {P:Program} {ops:List Oper} {V:List Ver} {new:Nat→Value} {i:Nat} {Γ:List (Nat×Ty)}:Run P ops V new i Γ [] []:=.nil i Γ
def Run.o {P:Program} {ops:List Oper} {V:List Ver} {new:Nat→Value} {i:Nat} {Γ:List (Nat×Ty)} {os:List Oper} {is:List Info} {T:Ty} {d:Option Tmp} {ins:Op} {ty:TypeId} {pos:String} {af:Array Edge} (h:OpJ P ⟨d,ins,ty,pos,af,none⟩ Γ [] [] (fun _=>[]) (fun _=>T)) (hs:Run P ops V new (i+1) (addD d T Γ) os is): Run P ops V new i Γ (⟨d,ins,ty,pos,af,none⟩::os) (⟨⟨[],fun _=>T⟩,[],[],[]⟩::is):=Run.p rfl h hs
section
variable {P:Program} {M:Fr} {M0:Blk} {w0:World} {n:Nat} {Γ:List (Nat×Ty)} {As:List Atom} {a:Act} {w:World}
theorem QbA {M0:Blk} {As Bs:List Atom} (h:∀k,fps Bs k→fps As k):∀k,free (hold M0 As) w k→free (hold M0 Bs) w k:=fun _ hk=>⟨hk.1,fun hm=>hk.2 (hm.imp id (h _))⟩
theorem St.facts {Γ':List (Nat×Ty)} (h:St M w0 n Γ As a w) (h':∀p∈Γ',p∈Γ):St M w0 n Γ' As a w:=⟨h.size,h.defers,h.grow,h.m0,h.own,h.fresh,h.apart,fun p hp=>h.slots p (h' p hp)⟩
def Qb6 (Γ:List (Nat×Ty)) (is:List Nat):List (Nat×Ty):=is.filterMap fun i=>Γ[i]?
theorem St.pick (h:St M w0 n Γ As a w) (is:List Nat):St M w0 n (Qb6 Γ is) As a w:=h.facts fun p hp=>by obtain⟨i,_,hi⟩:=YA.1 hp;exact Zq hi
theorem St.to (h:St M w0 n Γ As a w) (is:List Nat) (Γ':List (Nat×Ty)) (Bs:List Atom) (h1:Qb6 Γ is=Γ') (h2:As=Bs):St M w0 n Γ' Bs a w:=by subst h1 h2;exact h.pick is
theorem St.sub {Bs:List Atom} (h:St M w0 n Γ As a w) (hs:Bs.Sublist As):St M w0 n Γ Bs a w:=by have hf:∀k,fps Bs k→fps As k:=fun k ⟨A,hA,hk⟩=>⟨A,hs.subset hA,hk⟩;exact⟨h.size,h.defers,h.grow,h.m0,fun A hA=>A.keep (QbA hf) (fun _ _=>rfl) (fun _ _=>rfl) (h.own A (hs.subset hA)),fun A hA=>h.fresh A (hs.subset hA),h.apart.sublist hs,fun p hp=>p.2.keep (QbA hf) (fun _ _=>rfl) (h.slots p hp)⟩
theorem St.perm {Bs:List Atom} (h:St M w0 n Γ As a w) (hp:As.Perm Bs):St M w0 n Γ Bs a w:=by have hf:∀k,fps Bs k→fps As k:=fun k ⟨A,hA,hk⟩=>⟨A,hp.mem_iff.2 hA,hk⟩;exact⟨h.size,h.defers,h.grow,h.m0,fun A hA=>A.keep (QbA hf) (fun _ _=>rfl) (fun _ _=>rfl) (h.own A (hp.mem_iff.2 hA)),fun A hA=>h.fresh A (hp.mem_iff.2 hA),(hp.pairwise_iff (fun {x y} hxy k hk hx=>hxy k hx hk)).1 h.apart,fun p hp'=>p.2.keep (QbA hf) (fun _ _=>rfl) (h.slots p hp')⟩
theorem St.add {s:Nat} {T U:Ty} (i:Nat) (h:St M w0 n Γ As a w) (hi:Γ[i]?=some (s,T)) (hw:∀F w v,T.ok F w v→U.ok F w v):St M w0 n ((s,U)::Γ) As a w:=
 ⟨h.size,h.defers,h.grow,h.m0,h.own,h.fresh,h.apart,fun p hp=>by
  rcases Zm.1 hp with rfl | hp
  ·exact hw _ _ _ (h.slots (s,T) (Zq hi))
  ·exact h.slots p hp⟩
theorem St.nil {α:Type} (R:Rep α) (e:TypeId) (h:St M w0 n Γ As a w):St M w0 n Γ (Sim.own R e ([]:List α) (.slice none 0 0)::As) a w:=by
 have hf:∀k,fps (Sim.own R e ([]:List α) (.slice none 0 0)::As) k→fps As k:=by
  rintro k ⟨A,hA,hk⟩;rcases Zm.1 hA with rfl | hA
  ·cases hk
  ·exact⟨A,hA,hk⟩
 refine⟨h.size,h.defers,h.grow,h.m0,?_,?_,?_,fun p hp=>p.2.keep (QbA hf) (fun _ _=>rfl) (h.slots p hp)⟩
 ·intro A hA;rcases Zm.1 hA with rfl | hA
  ·exact⟨[],World.ownsRow_nil _ _ _ _,rfl,fun j T u hT=>by simp at hT⟩
  ·exact A.keep (QbA hf) (fun _ _=>rfl) (fun _ _=>rfl) (h.own A hA)
 ·intro A hA k hk;rcases Zm.1 hA with rfl | hA
  ·cases hk
  ·exact h.fresh A hA k hk
 ·refine pairwise_cons.2 ⟨fun B _ k hk=>?_,h.apart⟩;cases hk
theorem St.share {α:Type} {R:Rep α} {e:TypeId} {xs:List α} {v:Value} {s:Nat} (i:Nat) (h:St M w0 n Γ (Sim.own R e xs v::As) a w) (hi:Γ[i]?=some (s,tv v)):St M w0 n ((s,tsl R xs)::Γ) As a w:=by
 have hs:=h.sub (sublist_cons_self (Sim.own R e xs v) As);refine⟨hs.size,hs.defers,hs.grow,hs.m0,hs.own,hs.fresh,hs.apart,fun p hp=>?_⟩;rcases Zm.1 hp with rfl | hp
 ·have hv:get a s=v:=h.slots (s,tv v) (Zq hi);have hok:=h.own (Sim.own R e xs v) (by simp);have hfp:∀k,(Sim.own R e xs v).fp k→free (hold M.m As) w k:=by
   intro k hk;have hfr:=h.fresh _ (by simp) k hk;refine⟨hfr.2,?_⟩;rintro (hm | ⟨A,hA,hkA⟩)
   ·have:=h.m0 k hm;rcases hfr.1 with hb | hb
    ·exact this.2 hb
    ·omega
   ·exact (pairwise_cons.1 h.apart).1 A hA k hk hkA
  have:=Qa0.own (x:=.tmp s) (Γ:=[(s,tv v)]) (U:=[Sim.own R e xs v]) (R:=R) (e:=e) (xs:=xs) (v:=v) (Fct.t 0 rfl) (by simp) (free (hold M.m (Sim.own R e xs v::As)) w) (free (hold M.m As) w) w a
   (QbA (fun k ⟨A,hA,hk⟩=>⟨A,by simp[hA],hk⟩)) (fun A hA=>by simp at hA;subst hA;exact⟨hok,hfp⟩) (fun p hp _=>by simp at hp;subst hp;exact hv)
  exact this
 ·exact hs.slots p hp
theorem Qlc {Ts:List Ty} {q:Value} {F F':Blk} {w:World} (h:(box Ts q).ok F w) (hF:∀k,F k→F' k) (hfp:∀k,(box Ts q).fp k→F' k):(tptr Ts).ok F' w q:=by obtain⟨b,hq,hr⟩:=QgR h;exact⟨b,0,hq,hfp b hq,fun j T hj=>let⟨u,hu,ht⟩:=hr j T hj;⟨u,hu,T.keep hF (fun _ _=>rfl) ht⟩⟩
theorem St.shareB {Ts:List Ty} {q:Value} {s:Nat} (i:Nat) (h:St M w0 n Γ (box Ts q::As) a w) (hi:Γ[i]?=some (s,tv q)):St M w0 n ((s,tand (tv q) (tptr Ts))::Γ) As a w:=by
 have hs:=h.sub (sublist_cons_self (box Ts q) As);refine⟨hs.size,hs.defers,hs.grow,hs.m0,hs.own,hs.fresh,hs.apart,fun p hp=>?_⟩;rcases Zm.1 hp with rfl | hp
 ·have hv:get a s=q:=h.slots (s,tv q) (Zq hi);refine⟨hv,?_⟩;simp only[hv];refine Qlc (h.own (box Ts q) (by simp)) (QbA (fun k ⟨A,hA,hk⟩=>⟨A,by simp[hA],hk⟩)) (fun k hk=>?_);have hfr:=h.fresh _ (by simp) k hk;refine⟨hfr.2,?_⟩;rintro (hm | ⟨A,hA,hkA⟩)
  ·have:=h.m0 k hm;rcases hfr.1 with hb | hb
   ·exact this.2 hb
   ·omega
  ·exact (pairwise_cons.1 h.apart).1 A hA k hk hkA
 ·exact hs.slots p hp
theorem QsM {s:Nat} {b:Bool} {x y:Code} {Q:Exit→Act→World→Prop} (i:Nat) (hst:St M w0 n Γ As a w) (hi:Γ[i]?=some (s,tv (.bool b))) (ht:b=true→x.wp P Q a w) (hf:b=false→y.wp P Q a w):(Code.cond (.tmp s) x y).wp P Q a w:=by have hv:a.eval (.tmp s)=.bool b:=hst.slots (s,tv (.bool b)) (Zq hi);exact wp_cond_split hv ht hf
theorem wt {s:Nat} {b:Bool} {x y:Code} {Q:Exit→Act→World→Prop} (hst:St M w0 n ((s,tv (.bool b))::Γ) As a w) (ht:b=true→x.wp P Q a w) (hf:b=false→y.wp P Q a w):(Code.cond (.tmp s) x y).wp P Q a w:=QsM 0 hst rfl ht hf
theorem Qse {σ ρ:Type} {c:Code} {Q:Exit→Act→World→Prop} (body:σ→Option (σ⊕ρ)) (I:σ→Act→World→Prop) (out:ρ) (s0:σ) (h:Ql body s0=some out) (h0:I s0 a w)
  (round:∀s o a w,I s a w→body s=some o→(∀r,o=.inr r→r=out)→c.wp P (Exit.then (fun a' w'=>∃s',o=.inl s'∧I s' a' w') Q) a w):(Code.loop c).wp P Q a w:=by
 obtain⟨n,hn⟩:=QcB.1 h;intro b k cs;have key:∀n s a w,iter body n s=some out→I s a w→∃e a' w',Q e a' w'∧Arrives P (lone (b.at a (.code c::.inLoop c::k)) cs w) b k cs e a' w':=by
  intro n
  induction n with
  | zero=>intro s a w h;cases h
  | succ n ih=>
   intro s a w h hI;simp only[iter] at h
   cases hb:body s with
   | none=>rw[hb] at h;cases h
   | some o=>
    rw[hb] at h;obtain⟨e,a₁,w₁,hq,harr⟩:=round s o a w hI hb (by rintro r rfl;simpa using h) b (.inLoop c::k) cs
    cases e with
    | normal=>obtain⟨s',rfl,hI'⟩:=hq;obtain⟨e₂,a₂,w₂,hq₂,harr₂⟩:=ih s' a₁ w₁ h hI';exact⟨e₂,a₂,w₂,hq₂,.of_steps (Steps.trans harr (.one step_inLoop)) harr₂⟩
    | exit id=>exact⟨_,a₁,w₁,hq,.pass (x:=.inLoop c) rfl (fun _ _=>.inl (by simp)) harr⟩
    | goto l=>exact⟨_,a₁,w₁,hq,.pass (x:=.inLoop c) rfl (fun _ _=>.inl (by simp)) harr⟩
    | ret=>exact⟨_,a₁,w₁,hq,.pass (x:=.inLoop c) rfl (fun _ _=>.inl (by simp)) harr⟩
    | panic ch=>exact⟨_,a₁,w₁,hq,.pass (x:=.inLoop c) rfl (fun _ _=>.inl (by simp)) harr⟩
    | outgrown=>exact⟨_,a₁,w₁,hq,.pass (x:=.inLoop c) rfl (fun _ _=>.inl (by simp)) harr⟩
 obtain⟨e,a',w',hq,harr⟩:=key n s0 a w hn h0;exact⟨e,a',w',hq,.of_steps (.one step_loop) harr⟩
def Ret (P:Program) (fn:Func) (M:Blk) (E:List Atom) (w0:World) (N:Value→List Atom) (T:Value→Ty):Exit→Act→World→Prop:=bodyPost P fn (fun e w'=>∃x v,e=.returned v∧Step (Qay E) w0 w'∧Made M E (N x) w0 w'∧(T x).ok (free (next M E (N x)) w') w' v)
def ents (Ts:List Ty):List (Nat×Ty):=Ts.zipIdx.map fun p=>(p.2,p.1)
structure Qbd (M0:Blk) (E:List Atom) (M:Fr):Prop where
 b:M.b=Qay E
 m:∀k,M0 k↔M.m k∨Qay E k
 d:∀k,M.m k→¬Qay E k
 e:M.d=[]
theorem FnOk.enter {f:FuncId} {fn:Func} {c:Code} {Ts:List Ty} {E:List Atom} {N:Value→List Atom} {T:Value→Ty} (hf:P.funcs[f]?=some fn) (hb:fn.body=some c) (hn:fn.ntmps=n) (hl:Ts.length≤n)
  (h:∀M0 M w a,Qbd M0 E M→St M w n (ents Ts) E a w→c.wp P (Ret P fn M0 E w N T) a w):FnOk P f Ts E N T:=by
 intro M0 w vs hM hE hap hc;have hpl:Qbd M0 E ⟨fun k=>M0 k∧¬Qay E k,Qay E,[]⟩:=by
  refine⟨rfl,fun k=>⟨fun hk=>?_,?_⟩,fun k hk=>hk.2,rfl⟩
  ·by_cases he:Qay E k
   ·exact .inr he
   ·exact .inl ⟨hk,he⟩
  ·rintro (hk | hk)
   ·exact hk.1
   ·exact QdI hE k hk
 have hF:∀k,free M0 w k→free (hold (fun k=>M0 k∧¬Qay E k) E) w k:=by
  rintro k ⟨h1,h2⟩;refine⟨h1,?_⟩;rintro (hm | hm)
  ·exact h2 hm.1
  ·exact h2 (QdI hE k hm)
 refine calls_of_wp hf hb (h M0 _ w _ hpl ?_);have hvl:=hc.1;refine⟨by simp[hn];omega,rfl,Step.refl _ _,fun k hk=>⟨hM k hk.1,hk.2⟩,fun A hA=>A.keep hF (fun _ _=>rfl) (fun _ _=>rfl) (hE A hA).1,fun A hA k hk=>⟨.inl ⟨A,hA,hk⟩,hM k ((hE A hA).2 k hk)⟩,hap,?_⟩;intro p hp;obtain⟨⟨T',i⟩,hmem,rfl⟩:=ZC.1 hp;obtain⟨j,hj⟩:=Yd.1 hmem;rw[getElem?_zipIdx] at hj
 cases hT:Ts[j]? with
 | none=>simp[hT] at hj
 | some T''=>
  simp only[hT,ZY,ZX,Yx] at hj;obtain⟨rfl,rfl⟩:=hj;have hlt:j<vs.length:=by rw[hvl];exact (Zf.1 hT).1
  have hget:get { tmps:=vs.toArray++Array.replicate (fn.ntmps - vs.toArray.size) undef,defers:=[] } (0+j)=vs[j]:=by unfold get;simp[Array.getElem?_append,hlt]
  show T''.ok _ _ (get _ (0+j));rw[hget];exact T''.keep hF (fun _ _=>rfl) (hc.2 j T'' vs[j] hT (Zb hlt))
inductive Qdu (P:Program) (Γ:List (Nat×Ty)) (As:List Atom):List ResultVar→List Ty→Prop where
 | nil:Qdu P Γ As [] []
 | tmp {t:Nat} {T:Ty} {rs:List ResultVar} {Ts:List Ty} (h:Fct Γ (.tmp t) T) (hs:Qdu P Γ As rs Ts):Qdu P Γ As (.tmp t::rs) (T::Ts)
 | cell {p:Nat} {t:TypeId} {q:Value} {α:Type} {R:Rep α} {u:α} {bytes:Nat} {z:Value} {Us:List Ty} {rs:List ResultVar} {Ts:List Ty} (hz:TOk P t R bytes z) (hp:Fct Γ (.tmp p) (tv q)) (i:Nat) (hA:As[i]?=some (box Us q)) (hU:R.cs u=Us.take (R.cs u).length)
   (hs:Qdu P Γ As rs Ts):Qdu P Γ As (.cell p t::rs) (R.ty u::Ts)
def Qid:List Ty→Ty | [T]=>T | Ts=>ttup Ts
def Qqa (tmps:Array Value):ResultVar→Sem Value
 | .tmp t=>pure (tmps.getD t undef)
 | .cell a t=>do loadVar t (←asAddr (tmps.getD a undef))
theorem QtU (fn:Func) (tmps:Array Value):results fn tmps=(do let vs ←fn.results.mapM (Qqa tmps);pure (if h:vs.size=1 then vs[0] else .tuple vs)):=rfl
theorem Qz4 {rs:List ResultVar} {Ts:List Ty} (h:Qdu P Γ As rs Ts) (hst:St M w0 n Γ As a w):
  ∃vs,(rs.mapM (Qqa a.tmps)).run P w=.ok vs w∧QQ Ts (free (hold M.m As) w) w vs:=by
 have hfct:∀{t:Nat} {T:Ty},Fct Γ (.tmp t) T→T.ok (free (hold M.m As) w) w (get a t):=fun h=>h _ w a (fun p hp _=>hst.slots p hp)
 induction h with
 | nil=>exact⟨[],rfl,rfl,fun j T u h=>by simp at h⟩
 | @tmp t T rs Ts h hs ih=>
  obtain⟨vs,hr,hc⟩:=ih;refine⟨get a t::vs,?_,by simp[hc.1],fun j T' u hT hu=>?_⟩
  ·rw[mapM_cons];simp only[Qqa,Sem.run_bind,Sem.run_pure,Zo,hr];rfl
  ·cases j with
   | zero=>simp at hT hu;subst hT;subst hu;exact hfct h
   | succ j=>exact hc.2 j T' u (by simpa using hT) (by simpa using hu)
 | @cell p t q α R u bytes z Us rs Ts hz hp i hA hU hs ih=>
  obtain⟨vs,hr,hc⟩:=ih;have hq:get a p=q:=hfct hp;obtain⟨b,hqb,hrow⟩:=QgR (hst.own _ (Zq hA));obtain⟨v,hrun,hty⟩:=Qe7 hz (hrow.head hU);refine⟨v::vs,?_,by simp[hc.1],fun j T' u' hT hu=>?_⟩
  ·rw[mapM_cons];have e:a.tmps.getD p undef=.pointer (some ⟨b,0,none⟩):=hq.trans hqb;have e2:(loadVar t ⟨b,0,none⟩).run P w=.ok v w:=by
    simpa[Instr.loadAt,Instr.sureAddr] using hrun
   have e3:(asAddr (a.tmps.getD p undef)).run P w=.ok ⟨b,0,none⟩ w:=by rw[e];rfl
   simp only[Qqa,Sem.run_bind,Sem.run_pure,Zo,e3,e2];rw[hr];rfl
  ·cases j with
   | zero=>simp at hT hu;subst hT;subst hu;exact hty
   | succ j=>exact hc.2 j T' u' (by simpa using hT) (by simpa using hu)
theorem Qea {fn:Func} {rs:List ResultVar} {Ts:List Ty} {E:List Atom} {N:Value→List Atom} {T:Value→Ty} (x:Value) (is:List Nat) (hpl:Qbd M0 E M) (hst:St M w0 n Γ As a w) (hrs:fn.results=rs.toArray) (h:Qdu P Γ As rs Ts) (hd:Qa8 is=true)
  (hN:is.filterMap (fun i=>As[i]?)=N x) (hT:T x=Qid Ts):Ret P fn M0 E w0 N T .ret a w:=by
 obtain⟨vs,hrun,hc⟩:=Qz4 h hst;have hmem:∀A,A∈N x→A∈As:=by intro A hA;rw[←hN] at hA;obtain⟨i,_,hi⟩:=YA.1 hA;exact Zq hi
 have hnext:∀k,free (hold M.m As) w k→free (next M0 E (N x)) w k:=by
  rintro k ⟨h1,h2⟩;refine⟨h1,?_⟩;rintro (⟨hm,hne⟩ | ⟨A,hA,hk⟩)
  ·rcases (hpl.m k).1 hm with hm | hm
   ·exact h2 (.inl hm)
   ·exact hne hm
  ·exact h2 (.inr ⟨A,hmem A hA,hk⟩)
 have hmap:(results fn a.tmps).run P w=.ok (if h:vs.toArray.size=1 then vs.toArray[0] else .tuple vs.toArray) w:=by rw[QtU,hrs,mapM_toArray];simp only[Sem.run_bind,Sem.run_map,hrun,Zo];rfl
 refine⟨hst.defers.trans hpl.e,_,hmap,x,_,rfl,by rw[←hpl.b];exact hst.grow,⟨?_,fun A hA k hk=>?_,fun A hA=>Atom.keep _ hnext (fun _ _=>rfl) (fun _ _=>rfl) (hst.own _ (hmem A hA))⟩,?_⟩
 ·rw[←hN];have hap:=hst.apart;unfold QcL at hap ⊢;rw[pairwise_filterMap];refine (show is.Pairwise (·≠·) from Qgi hd).imp ?_;intro i j hij A hA B hB k hk hkB;rw[pairwise_iff_getElem] at hap;obtain⟨hi,rfl⟩:=Zf.1 hA;obtain⟨hj,rfl⟩:=Zf.1 hB;rcases Nat.lt_trichotomy i j with h | h | h
  ·exact hap i j hi hj h k hk hkB
  ·exact hij h
  ·exact hap j i hj hi h k hkB hk
 ·have:=hst.fresh A (hmem A hA) k hk;rw[hpl.b] at this;exact this
 ·rw[hT];have hl:=hc.1;by_cases h1:vs.toArray.size=1
  ·rw[dif_pos h1];have h1':vs.length=1:=by simpa using h1
   obtain⟨v,rfl⟩:=length_eq_one_iff.1 h1';obtain⟨T',rfl⟩:=length_eq_one_iff.1 (hl.symm.trans h1');exact T'.keep hnext (fun _ _=>rfl) (hc.2 0 T' v rfl rfl)
  ·rw[dif_neg h1];have h1':vs.length≠1:=by simpa using h1
   have e:Qid Ts=ttup Ts:=by
    match Ts,hl with
    | [],_=>rfl
    | [T'],hl=>exact (h1' (by simpa using hl)).elim
    | T1::T2::Ts,_=>rfl
   rw[e];exact⟨vs,rfl,hc.keepE hnext (fun _ _=>rfl)⟩
end
def QQ.nil {F:Blk} {w:World}:QQ [] F w []:=⟨rfl,fun j T u h=>by simp at h⟩
def QQ.cons {T:Ty} {Ts:List Ty} {F:Blk} {w:World} {u:Value} {us:List Value} (h:T.ok F w u) (k:QQ Ts F w us):QQ (T::Ts) F w (u::us):=
 ⟨by simp[k.1],fun j T' u' hT hu=>by
  cases j with
  | zero=>simp at hT hu;subst hT;subst hu;exact h
  | succ j=>exact k.2 j T' u' (by simpa using hT) (by simpa using hu)⟩
def QQ.inv {T:Ty} {Ts:List Ty} {F:Blk} {w:World} {us:List Value} (h:QQ (T::Ts) F w us):∃u vs,us=u::vs∧T.ok F w u∧QQ Ts F w vs:=by
 match us,h with
 | [],h=>exact absurd h.1 (by simp)
 | u::vs,h=>exact⟨u,vs,rfl,h.2 0 T u rfl rfl,by simpa using h.1,fun j T' u' hT hu=>h.2 (j+1) T' u' (by simpa using hT) (by simpa using hu)⟩
def QQ.inv0 {F:Blk} {w:World} {us:List Value} (h:QQ [] F w us):us=[]:=ZO h.1
def One (T:Ty):Prop:=∀F w v,T.ok F w v→v.oneCell'=true
def Q1 {u:Value} (h:u.oneCell'=true):One (tv u):=fun _ _ v hv=>by have:v=u:=hv;rw[this];exact h
def Qba {α:Type} {R:Rep α} {xs:List α}:One (tsl R xs):=fun _ _ _ hv=>by obtain⟨ad,cap,e,_⟩:=hv;rw[e];rfl
def Qaf:∀T,T∈([]:List Ty)→One T:=fun T h=>by simp at h
def Qp {T:Ty} {Ts:List Ty} (h:One T) (hs:∀U,U∈Ts→One U):∀U,U∈T::Ts→One U:=fun U hU=>by
 rcases Zm.1 hU with rfl | hU
 ·exact h
 ·exact hs U hU
def Qcd {u:Value}:Qg7 (tv u):=fun _ _ _ _ h=>h
def QqB {Ts:List Ty} (h:∀T,T∈Ts→Qg7 T):Qg7 (ttup Ts):=fun F F' w _ ⟨us,hv,hc⟩=>⟨us,hv,hc.1,fun j T u hT hu=>h T (Zq hT) F F' w u (hc.2 j T u hT hu)⟩
def QxX:∀T,T∈([]:List Ty)→Qg7 T:=fun T h=>by simp at h
def Qld {T:Ty} {Ts:List Ty} (h:Qg7 T) (hs:∀U,U∈Ts→Qg7 U):∀U,U∈T::Ts→Qg7 U:=fun U hU=>by
 rcases Zm.1 hU with rfl | hU
 ·exact h
 ·exact hs U hU
def QqC {α:Type} {R:Rep α} {e:TypeId} {xs:List α} {v:Value} (h:∀x,∀T,T∈R.cs x→Qg7 T):Qka (own R e xs v):=fun F F' w ⟨us,ho,hc⟩=>⟨us,ho,hc.1,fun j T u hT hu=>by obtain⟨x,_,hx⟩:=ZG.1 (Zq hT);exact h x T hx F F' w u (hc.2 j T u hT hu)⟩
section
variable {Γ:List (Nat×Ty)} {P:Program} {d:Option Tmp} {ty:TypeId} {pos:String} {af:Array Edge} {g:Option (Nat×Bool)} {x y:Operand} {T:Ty} {t e:TypeId} {α:Type} {R:Rep α} {bytes:Nat} {z:Value}
theorem FnOk.ro {f:FuncId} {Ts:List Ty} {xs:List α} {T:Value→Ty} {T':Ty} (h:FnOk P f Ts [] (fun v=>[own R e xs v]) T) (hT:∀x F w v,(tsl R xs).ok F w x→(T x).ok F w v→T'.ok F w v):FnOk P f Ts [] (fun _=>[]) (fun _=>T'):=by
 intro M w vs hM hE hap hc;refine Calls.mono (h M w vs hM hE hap hc) ?_;rintro en w' ⟨x,v,he,hg,hN,hty⟩;have hfp:=hN.place _ (Ze.2 rfl);have hok:=hN.ok _ (Ze.2 rfl);have hsub:∀k,free (next M [] [own R e xs x]) w' k→free M w' k:=by rintro k ⟨h1,h2⟩;exact⟨h1,fun hm=>h2 (.inl ⟨hm,fun h=>(by rw[Qdx] at h;exact h)⟩)⟩
 have hfp':∀k,(own R e xs x).fp k→free M w' k:=by
  intro k hk;refine⟨(hfp k hk).2,fun hm=>?_⟩;have:=hM k hm;rcases (hfp k hk).1 with h | h
  ·rw[Qdx] at h;exact h
  ·omega
 have hsl:(tsl R xs).ok (free M w') w' x:=Qa0.own (x:=.const x) (Γ:=[]) (U:=[own R e xs x]) (R:=R) (e:=e) (xs:=xs) (v:=x) .k (by simp) _ _ w' ⟨#[],[]⟩ hsub (fun A hA=>by simp at hA;subst hA;exact⟨hok,hfp'⟩) (fun p hp=>by simp at hp);refine⟨undef,v,he,hg,Qes,?_⟩;simp only[Qhq];exact hT x _ _ _ hsl ((T x).keep hsub (fun _ _=>rfl) hty)
theorem Qz5 {xs:List α}:∀x F w v,(tsl R xs).ok F w x→(tv x).ok F w v→(tsl R xs).ok F w v:=fun x F w v h hv=>by have:v=x:=hv;rw[this];exact h
theorem QsN {xs:List α} {Ts:List Ty}:∀x F w v,(tsl R xs).ok F w x→(ttup (tv x::Ts)).ok F w v→(ttup (tsl R xs::Ts)).ok F w v:=fun x F w v h ⟨us,hv,hc⟩=>by obtain⟨u,vs,rfl,hu,hcs⟩:=hc.inv;have:u=x:=hu;subst this;exact⟨_,hv,.cons h hcs⟩
theorem QsO {xs:List α} {T0:Ty} {Ts:List Ty}:∀x F w v,(tsl R xs).ok F w x→(ttup (T0::tv x::Ts)).ok F w v→(ttup (T0::tsl R xs::Ts)).ok F w v:=fun x F w v h ⟨us,hv,hc⟩=>by obtain⟨u,vs,rfl,hu,hcs⟩:=hc.inv;obtain⟨u2,vs2,rfl,hu2,hcs2⟩:=hcs.inv;have:u2=x:=hu2;subst this;exact⟨_,hv,.cons hu (.cons h hcs2)⟩
inductive QjC (Γ:List (Nat×Ty)) (pl:Array (Nat×Nat)):List (Nat×Operand)→List Ty→List Ty→Prop where
 | nil (Ts:List Ty):QjC Γ pl [] Ts Ts
 | cons {i off:Nat} {α:Type} {R:Rep α} {u:α} {x:Operand} {ps:List (Nat×Operand)} {Ts Ts':List Ty} (hp:pl[i]?=some (off,R.n)) (h:Fct Γ x (R.ty u)) (hl:off+R.n≤Ts.length)
   (hs:QjC Γ pl ps (splice Ts off (R.cs u)) Ts'):QjC Γ pl ((i,x)::ps) Ts Ts'
theorem Qsf {pl:Array (Nat×Nat)} {F:Blk} {w:World} {A:Act} {ps:List (Nat×Operand)} {Ts Ts':List Ty} (h:QjC Γ pl ps Ts Ts') (he:∀p∈Γ,(∃q∈ps,Operand.tmp p.1=q.2)→p.2.ok F w (get A p.1)):
  ∀cs:Array Value,QQ Ts F w cs.toList→∃cs',Instr.fill (pl[·]?) cs (ps.map fun p=>(p.1,A.eval p.2))=some cs'∧QQ Ts' F w cs'.toList:=by
 induction h with
 | nil=>intro cs hc;exact⟨cs,rfl,hc⟩
 | @cons i off α R u x ps Ts Ts' hp hx hl hs ih=>
  intro cs hc;have hv:=hx F w A (fun p hp hpx=>he p hp ⟨(i,x),by simp,hpx⟩);obtain⟨hcv,_,hn⟩:=QcA hv;have hcl:cs.size=Ts.length:=by simpa using hc.1
  have hvl:(A.eval x).cells.toList.length=R.n:=by simpa using hn
  have hfs:=Qo3 (A.eval x).cells.toList 0 off cs (by rw[hvl];omega);simp only[Nat.add_zero] at hfs;simp only[Yi,Instr.fill,hp];rw[Zd (by simp[hn];omega)];refine ih (fun p hp ⟨q,hq,e⟩=>he p hp ⟨q,by simp[hq],e⟩) _ ?_;rw[←Array.foldl_toList,Array.toList_zipIdx,hfs];exact hc.splice hcv (by rw[R.len];exact hl)
theorem QaJ {fs:Array Field} {pl:Array (Nat×Nat)} {ps:Array (Nat×Operand)} {Ts0 Ts':List Ty} (hu:P.underlying t=some (.struct fs)) (hpl:∀w,((fs.mapM fun f=>do pure (f.offset,←sizeOf f.type):Sem (Array (Nat×Nat)))).run P w=.ok pl w)
  (hz:(P.info? t).bind (·.zero)=some z) (h0:∀F w,QQ Ts0 F w z.cells.toList) (hps:QjC Γ pl ps.toList Ts0 Ts'):OpJ P ⟨d,.build t ps,ty,pos,af,g⟩ Γ [] [] (fun _=>[]) (fun _=>tagg Ts'):=
 Qax fun F w A he=>by
  obtain⟨cs',hf,hc⟩:=Qsf (A:=A) (F:=F) (w:=w) hps (fun p hp ⟨q,hq,e⟩=>he p hp (by simp only[Op.operands,mem_toArray,ZC];exact⟨q,hq,e.symm⟩)) z.cells (h0 F w);obtain⟨ti,hti,hzz⟩:∃ti,P.info? t=some ti∧ti.zero=some z:=by
   cases h:P.info? t with
   | none=>simp[h] at hz
   | some ti=>exact⟨ti,rfl,by simpa[h] using hz⟩
  refine⟨.agg cs',?_,cs'.toList,by simp,hc⟩;have hzv:(zeroValue t).run P w=.ok z w:=by simp[zeroValue,typeInfo,hti,hzz]
  have hf':Instr.fill (fun x=>pl[x]?) z.cells (ps.map fun p=>(p.1,A.eval p.2)).toList=some cs':=by simpa using hf
  simp only[execOp,Instr.build,Sem.run_bind,hzv,Zo,run_underlying hu,hpl w,hf',Sem.run_pure]
theorem Qsg {n:Nat} {ps:Array (Nat×Operand)} {us:List α} (hu:P.underlying t=some (.array n e)) (hze:TOk P e R bytes z) {zt:Value} (hz:(P.info? t).bind (·.zero)=some zt) (hzn:zt.cells.size=us.length * R.n) (hps:Qdt Γ R 0 ps.toList us):
  OpJ P ⟨d,.build t ps,ty,pos,af,g⟩ Γ [] [] (fun _=>[]) (fun _=>tagg (us.flatMap R.cs)):=
 Qax fun F w A he=>by
  obtain⟨ti,hti,_,hs,_⟩:=hze.info;obtain⟨vs,hc,_,cs',hf,hcs⟩:=Qno (F:=F) (w:=w) (A:=A) hps (fun p hp ⟨q,hq,e⟩=>he p hp (by simp only[Op.operands,mem_toArray,ZC];exact⟨q,hq,e.symm⟩)) zt.cells (by rw[hzn];simp);have hvl:vs.length=us.length * R.n:=by rw[hc.1,Qap]
  have hcs2:cs'.toList=vs:=by rw[hcs];simp[splice,hvl,hzn]
  obtain⟨tj,htj,hzz⟩:∃ti,P.info? t=some ti∧ti.zero=some zt:=by
   cases h:P.info? t with
   | none=>simp[h] at hz
   | some ti=>exact⟨ti,rfl,by simpa[h] using hz⟩
  refine⟨.agg cs',?_,cs'.toList,by simp,by rw[hcs2];exact hc⟩;have hzv:(zeroValue t).run P w=.ok zt w:=by simp[zeroValue,typeInfo,htj,hzz]
  have hsz:(sizeOf e).run P w=.ok R.n w:=by simp[sizeOf,typeInfo,hti,hs]
  have hf':Instr.fill (fun i=>some (i * R.n,R.n)) zt.cells (ps.map fun p=>(p.1,A.eval p.2)).toList=some cs':=by simpa using hf
  simp only[execOp,Instr.build,Sem.run_bind,hzv,Zo,run_underlying hu,hsz,hf',Sem.run_pure]
theorem QmP {t:TypeId} (n:Nat) (ht:P.underlying t=some .bool) (a b:Bool) (w:World):(Op.equalIn (n+1) t (.bool a) (.bool b)).run P w=.ok (a==b) w:=by simp[Op.equalIn,run_underlying ht]
theorem Qop {t:TypeId} (ht:P.underlying t=some .bool) (a b:Bool) (w:World):(Op.equal t (.bool a) (.bool b)).run P w=.ok (a==b) w:=QmP 9999 ht a b w
theorem Qz6 {a b:Bool} {t2:TypeId} (ht:P.underlying t=some .bool) (hx:Fct Γ x (tv (.bool a))) (hy:Fct Γ y (tv (.bool b))):OpJ P ⟨d,.binOp .neq t x y t2,ty,pos,af,g⟩ Γ [] [] (fun _=>[]) (fun _=>tv (.bool (a !=b))):=QbX hx hy fun w=>by simp[eqGuard,binOp,Qop ht,bne]
theorem Qnp {t:TypeId} (m:Nat) (ht:P.underlying t=some (.slice e)) (ad:Option Addr) (n c:Nat) (w:World):(Op.equalIn (m+1) t (.slice ad n c) (.slice none 0 0)).run P w=.ok ad.isNone w:=by cases ad<;>simp[Op.equalIn,run_underlying ht]
theorem QgE {t:TypeId} (ht:P.underlying t=some (.slice e)) (ad:Option Addr) (n c:Nat) (w:World):(Op.equal t (.slice ad n c) (.slice none 0 0)).run P w=.ok ad.isNone w:=Qnp 9999 ht ad n c w
end
def Qju {α:Type} (R:Rep α):∀(xs:List α) (i:Nat) (x:α),i<xs.length→(xs.set i x).flatMap R.cs=splice (xs.flatMap R.cs) (i * R.n) (R.cs x):=by
 intro xs
 induction xs with
 | nil=>intro i x h;simp at h
 | cons y xs ih=>
  intro i x h
  cases i with
  | zero=>simp only[set_cons_zero,flatMap_cons,splice,Nat.zero_mul,Nat.zero_add,take_zero,Yg];rw[R.len,←R.len y,drop_left]
  | succ i=>
   simp only[set_cons_succ,flatMap_cons,splice];rw[ih i x (by simpa using h)];have e:(i+1) * R.n=(R.cs y).length+i * R.n:=by rw[R.len,Nat.add_mul];omega
   rw[e,take_length_add_append,Nat.add_assoc,drop_length_add_append];simp[splice]
section
variable {Γ:List (Nat×Ty)} {P:Program} {d:Option Tmp} {ty:TypeId} {pos:String} {af:Array Edge} {g:Option (Nat×Bool)} {x y:Operand} {T:Ty} {t e:TypeId} {α:Type} {R:Rep α} {bytes:Nat} {z:Value}
theorem Qnq {β:Type} {R2:Rep β} {xs:List α} {v:Value} {i off:Nat} {u:α} {u2:β} (hz:TOk P t R2 bytes z)
  (hp:∀F w A ad n c,Qg4 Γ (⟨d,.store t x y,ty,pos,af,g⟩:Oper).op.operands F w A→v=.slice (some ⟨ad,0,none⟩) n c→A.eval x=.pointer (some ⟨ad,i * R.n+off,none⟩))
  (hx:Fct Γ y (R2.ty u2)) (hi:i<xs.length) (hoff:off+R2.n≤R.n) (hu:R.cs u=splice (R.cs xs[i]) off (R2.cs u2)):
  OpJ P ⟨d,.store t x y,ty,pos,af,g⟩ Γ [] [own R e xs v] (fun _=>[own R e (xs.set i u) v]) (fun _=>tany):=by
 intro M w A hM _ hE _ _ he;obtain⟨ho,hfp⟩:=hE _ (Ze.2 rfl);have hgiv:=QdI hE;have hv:=hx.use (by simp[Op.operands]) he;rcases QaS ho with⟨_,hn⟩ | ⟨b,cap,cur,hvv,hb,h1,h2,h3,h4⟩
 ·rw[hn] at hi;simp at hi
 ·have hpv:=hp _ w A b _ _ he hvv;have hin:i * R.n+R.n≤xs.length * R.n:=by
   have:(i+1) * R.n≤xs.length * R.n:=Nat.mul_le_mul_right _ hi;rw[Nat.add_mul] at this;omega
  have hcap:xs.length * R.n≤cap * R.n:=Nat.mul_le_mul_right _ h1;have hrs:=Qjt (off:=i * R.n+off) hz hv hb (by omega);have hr:(execOp A.eval (⟨d,.store t x y,ty,pos,af,g⟩:Oper)).run P w=.ok .skip (w.setRow b (splice cur.toList (i * R.n+off) (A.eval y).cells.toList).toArray):=by simp only[execOp,hpv,Sem.run_bind,hrs,Zo,Sem.run_pure]
  simp only[Does,hr];have heat:∀k,Qay [own R e xs v] k↔k=b:=by intro k;rw[Qan,hvv,Qbu]
  refine⟨undef,Qet ((heat b).2 rfl),Qcs (fun k hk=>?_) ?_,trivial⟩
  ·rw[hvv] at hk;rw[Qbu.1 hk];exact⟨.inl ((heat b).2 rfl),by simpa using (Array.getElem?_eq_some_iff.1 hb).1⟩
  ·obtain⟨hcv,_,hnn⟩:=QcA hv;have hvl:(A.eval y).cells.toList.length=R2.n:=by simpa using hnn
   have hl:(xs.set i u).length=xs.length:=by simp
   have hvv':v=.slice (some ⟨b,0,none⟩) (xs.set i u).length cap:=by rw[hl];exact hvv
   rw[hvv'];refine QfH (setRow_heap w b cur _ e _ hb) (by rw[hl];exact h1) h2 (by simp only[size_toArray];rw[Qe8 _ _ _ (by simp;omega)];simpa using h3) ?_;rw[hl];have e1:(splice cur.toList (i * R.n+off) (A.eval y).cells.toList).take (xs.length * R.n)=splice (cur.toList.take (xs.length * R.n)) (i * R.n+off) (A.eval y).cells.toList:=by
    apply ext_getElem?;intro j;rw[getElem?_take,Qa4 _ _ _ _ (by simp;omega),Qa4 _ _ _ _ (by simp;omega),getElem?_take];by_cases hj:j<xs.length * R.n
    ·rw[Zc hj,Zc hj]
    ·rw[Zd hj,Zd hj,Zd (by omega)]
   simp only;rw[e1];have e2:(xs.set i u).flatMap R.cs=splice (xs.flatMap R.cs) (i * R.n+off) (R2.cs u2):=by
    rw[Qju R xs i u hi,hu];have hfl:(xs.flatMap R.cs).length=xs.length * R.n:=Qap R xs;have hul:(R2.cs u2).length=R2.n:=R2.len u2;have hil:(R.cs xs[i]).length=R.n:=R.len _;have hsl:(splice (R.cs xs[i]) off (R2.cs u2)).length=R.n:=by rw[Qe8 _ _ _ (by omega),hil]
    apply ext_getElem?;intro j;rw[Qa4 _ _ _ _ (by rw[hsl];omega),Qa4 (xs.flatMap R.cs) (R2.cs u2) (i * R.n+off) j (by omega),hsl,hul];by_cases hj:i * R.n≤j∧j<i * R.n+R.n
    ·rw[Zc hj,Qa4 _ _ _ _ (by omega),hul];by_cases hj2:off≤j - i * R.n∧j - i * R.n<off+R2.n
     ·rw[Zc hj2,Zc (by omega)];congr 1;omega
     ·rw[Zd hj2,Zd (by omega)];have:j=i * R.n+(j - i * R.n):=by omega
      rw[this,Qgj R xs i _ xs[i] (Zb hi) (by omega)];congr 1;omega
    ·rw[Zd hj,Zd (by omega)]
   rw[e2];refine (h4.splice hcv (by rw[Qap,R2.len];omega)).keepE ?_ ?_
   ·intro k hk;rw[hvv] at hgiv heat;refine Qc8 (by simp) hgiv (fun B hB j hj=>?_) hk;obtain rfl:=Ze.1 hB;rw[Qbu] at hj;exact .inl ((heat j).2 hj)
   ·rintro k ⟨g1,g2⟩;exact setRow_other w b k _ (fun e=>g2 (hgiv k ((heat k).2 e)))
theorem QgT {xs ys:List α} {v:Value} {i:Int} {u:α} (hz:TOk P t R bytes z) (hp:Fct Γ x (tv (Qa9 v (i.toNat * R.n)))) (hx:Fct Γ y (R.ty u)) (h:setAt xs i u=some ys):
  OpJ P ⟨d,.store t x y,ty,pos,af,g⟩ Γ [] [own R e xs v] (fun _=>[own R e ys v]) (fun _=>tany):=by
 unfold setAt at h;split at h
 ·rename_i hc;obtain rfl:=Zs h;have hi:i.toNat<xs.length:=by omega
  refine Qnq (off:=0) hz (fun F w A ad n c he hv=>?_) hx hi (by omega) ?_
  ·rw[hp.val (by simp[Op.operands]) he,hv];simp[Qa9,QaI]
  ·simp[splice,R.len]
 ·cases h
theorem Qkc {β:Type} {R2:Rep β} {xs ys:List α} {v:Value} {i:Int} {off:Nat} {u0 u:α} {u2:β} (hz:TOk P t R2 bytes z) (hp:Fct Γ x (tv (padd (Qa9 v (i.toNat * R.n)) off))) (hx:Fct Γ y (R2.ty u2)) (h0:idx xs i=some u0) (h:setAt xs i u=some ys)
  (hoff:off+R2.n≤R.n) (hu:R.cs u=splice (R.cs u0) off (R2.cs u2)):
  OpJ P ⟨d,.store t x y,ty,pos,af,g⟩ Γ [] [own R e xs v] (fun _=>[own R e ys v]) (fun _=>tany):=by
 unfold setAt at h;split at h
 ·rename_i hc;obtain rfl:=Zs h;have hi:i.toNat<xs.length:=by omega
  have e0:xs[i.toNat]=u0:=by unfold idx at h0;rw[Zc hc.1,Zb hi] at h0;exact Zs h0
  refine Qnq (off:=off) hz (fun F w A ad n c he hv=>?_) hx hi hoff (by rw[e0];exact hu);rw[hp.val (by simp[Op.operands]) he,hv];simp[Qa9,padd,QaI]
 ·cases h
theorem Qeb {s:TypeId} {f off m:Nat} {v:Value} {xs:List α} (hf:Qt P s f off) (hp:Fct Γ x (tv (Qa9 v m))) (hne:xs≠[]):OpJ P ⟨d,.fieldAddr s x f,ty,pos,af,g⟩ Γ [own R e xs v] [] (fun _=>[]) (fun _=>tv (padd (Qa9 v m) off)):=
 QcH fun M w a hU he=>by
  have hv:=hp.val (by simp[Op.operands]) he;rcases QaS (hU _ (Ze.2 rfl)) with⟨_,hn⟩ | ⟨b,cap,cur,hvv,_⟩
  ·exact (hne hn).elim
  ·subst hvv;exact⟨_,by simp only[execOp,hv,Qa9,QaI,Sem.run_bind,Qjs hf,Zo,Sem.run_pure,padd],rfl⟩
theorem Qdh {xs:List α} {v:Value} {i:Int} {u:α} (hz:TOk P t R bytes z) (hp:Fct Γ x (tv (Qa9 v (i.toNat * R.n)))) (h:idx xs i=some u):OpJ P ⟨d,.load t x,ty,pos,af,g⟩ Γ [own R e xs v] [] (fun _=>[]) (fun _=>R.ty u):=
 QcH fun M w a hU he=>by
  have hv:=hp.val (by simp[Op.operands]) he;unfold idx at h;split at h
  ·rcases QaS (hU _ (Ze.2 rfl)) with⟨_,hn⟩ | ⟨b,cap,cur,hvv,hb,h1,h2,h3,h4⟩
   ·rw[hn] at h;simp at h
   ·subst hvv;have hi:i.toNat<xs.length:=(Zf.1 h).1;have hrow:Row (xs.flatMap R.cs) (free M w) w b 0:=fun j T hT=>by
     have hj:j<(cur.toList.take (xs.length * R.n)).length:=by rw[h4.1];exact (Zf.1 hT).1
     refine⟨(cur.toList.take (xs.length * R.n))[j],?_,h4.2 j T _ hT (Zb hj)⟩;have hj2:j<cur.size:=by simp at hj;omega
     simp[World.cell?,hb,hj2]
    obtain⟨v',hrun,hty⟩:=Qe7 hz (hrow.elem h);refine⟨v',?_,hty⟩;simp only[execOp,hv,Qa9,QaI,Sem.run_bind,hrun,Zo,Sem.run_pure]
  ·cases h
theorem QaQ {xs:List α} {v:Value} {e':TypeId} {i:Int} {k:IntKind} {u:α} (ht:P.underlying t=some (.slice e)) (hz:TOk P e R bytes z) (hx:Fct Γ x (tv v)) (hi:Fct Γ y (tv (.int k i))) (h:idx xs i=some u):
  OpJ P ⟨d,.indexAddr t x y,ty,pos,af,g⟩ Γ [own R e' xs v] [] (fun _=>[]) (fun _=>tv (Qa9 v (i.toNat * R.n))):=by
 unfold idx at h;split at h
 ·have:=(Zf.1 h).1;exact Qlb ht hz hx hi (by assumption) (by omega)
 ·cases h
theorem Qg8 {xs ys:List α} {v:Value} {e':TypeId} {i:Int} {k:IntKind} {u:α} (ht:P.underlying t=some (.slice e)) (hz:TOk P e R bytes z) (hx:Fct Γ x (tv v)) (hi:Fct Γ y (tv (.int k i))) (h:setAt xs i u=some ys):
  OpJ P ⟨d,.indexAddr t x y,ty,pos,af,g⟩ Γ [own R e' xs v] [] (fun _=>[]) (fun _=>tv (Qa9 v (i.toNat * R.n))):=by
 unfold setAt at h;split at h
 ·rename_i hc;exact Qlb ht hz hx hi hc.1 hc.2
 ·cases h
end
def QcC {P:Program} {a:Act} {w:World} {σ ρ:Type} {c:Code} {Q:Exit→Act→World→Prop} (body:σ→Option (σ⊕ρ)) (I:σ→Act→World→Prop) (out:ρ) (s0:σ) (h:Ql body s0=some out) (h0:I s0 a w)
  (round:∀s o a w (K:Act→World→Prop),I s a w→body s=some o→(∀r,o=.inr r→r=out)→(∀s' a w,o=.inl s'→I s' a w→K a w)→c.wp P (Exit.then K Q) a w):(Code.loop c).wp P Q a w:=
 Qse body I out s0 h h0 fun s o a w hI hb ho=>round s o a w _ hI hb ho (fun s' _ _ h1 h2=>⟨s',h1,h2⟩)
section
variable {Γ:List (Nat×Ty)} {P:Program} {d:Option Tmp} {ty:TypeId} {pos:String} {af:Array Edge} {g:Option (Nat×Bool)}
theorem QG {fid:FuncId} {Ts:List Ty} {xs:List Operand} {ts:Array TypeId} {E:List Atom} {N:Value→List Atom} {T:Value→Ty} (hc:Qj P fid) (hfn:FnOk P fid Ts E N T) (ha:Args Γ [] xs Ts):
  OpJ P ⟨d,.call { callee:=.value (.func fid),args:=xs.toArray,argTypes:=ts },ty,pos,af,g⟩ Γ [] E N T:=
 Qz3 (caps:=[]) (Tc:=[]) hc (by simpa using hfn) .fn ha
theorem Qdy {fid:FuncId} {Ts:List Ty} {xs:List Operand} {ts:Array TypeId} {E:List Atom} {N:Value→List Atom} {T:Value→Ty} (U:List Atom) (hc:Qj P fid) (hfn:FnOk P fid Ts E N T) (ha:Args Γ U xs Ts) (hT:∀x,Qg7 (T x)) (hN:∀x,∀A∈N x,Qka A):
  OpJ P ⟨d,.call { callee:=.value (.func fid),args:=xs.toArray,argTypes:=ts },ty,pos,af,g⟩ Γ U E N T:=
 QxV (caps:=[]) (Tc:=[]) U hc (by simpa using hfn) (.of .fn) ha hT hN
theorem Qgl {x:Value}:∀A∈(fun _=>[]:Value→List Atom) x,Qka A:=fun _ h=>(by cases h)
theorem Qvg {A:Atom} (h:Qka A):∀B∈[A],Qka B:=fun B hB=>by obtain rfl:=Ze.1 hB;exact h
end
def Qt.mk {P:Program} {s f off:Nat} {fs:Array Field} {fd:Field} {α:Type} {R:Rep α} {b:Nat} {z:Value} (hu:P.underlying s=some (.struct fs)) (hf:fs[f]?=some fd) (ho:fd.offset=off) (hz:TOk P fd.type R b z) (hn:R.n≠0):Qt P s f off:=
 have⟨i,hi,_,hs,_⟩:=hz.info
 ⟨fs,fd,i,hu,hf,ho,hi,by rw[hs];exact hn⟩
def nz_ne {b:Int} {u:Unit} (h:nz b=some u):b≠0:=by unfold nz at h;split at h<;>first | assumption | cases h
def rm_ok {n:Nat} {u:Unit} (h:rm n=some u):rm n=some ():=h
def Ql1 {a b:Bool} (h:a=true) (k:b=true):(a&&b)=true:=by rw[h,k];rfl
def beqF {c:Bool} (h:c=false):(c==false)=true:=by rw[h];rfl
def beqT {c:Bool} (h:c=true):(c==true)=true:=by rw[h];rfl
def jn {α β:Type} (k:α) (f:α→β):β:=f k
def Qz7 {α β:Type} {k:α} {f:α→Option β} {r:β} (h:jn k f=some r):∃k',k'=k∧f k'=some r:=⟨k,rfl,h⟩
def QaO (f:FuncId) (Tc:List Ty):Ty:=⟨fun F w v=>∃caps,(tclo f caps Tc).ok F w v,fun hF hh ⟨caps,h⟩=>⟨caps,(tclo f caps Tc).keep hF hh h⟩⟩
inductive Caps (Γ:List (Nat×Ty)):List Operand→List Ty→Prop where
 | nil:Caps Γ [] []
 | cons {x:Operand} {T:Ty} {xs:List Operand} {Ts:List Ty} (h:Fct Γ x T) (hs:Caps Γ xs Ts):Caps Γ (x::xs) (T::Ts)
def Caps.cells {Γ:List (Nat×Ty)} {xs:List Operand} {Ts:List Ty} {F:Blk} {w:World} {a:Act} (h:Caps Γ xs Ts) (he:∀p∈Γ,Operand.tmp p.1∈xs→p.2.ok F w (get a p.1)):QQ Ts F w (xs.map a.eval):=by
 induction h with
 | nil=>exact .nil
 | @cons x T xs Ts h hs ih=>exact .cons (h F w a (fun p hp e=>he p hp (by rw[e];simp))) (ih (fun p hp e=>he p hp (by simp[e])))
section
variable {Γ:List (Nat×Ty)} {P:Program} {d:Option Tmp} {ty:TypeId} {pos:String} {af:Array Edge} {g:Option (Nat×Bool)} {x y:Operand} {T:Ty} {t e:TypeId} {α:Type} {R:Rep α} {bytes:Nat} {z:Value}
theorem Qg9 {fid:FuncId} {xs:List Operand} {Tc:List Ty} (h:Caps Γ xs Tc):OpJ P ⟨d,.makeFunc (.func fid) #[] xs.toArray,ty,pos,af,g⟩ Γ [] [] (fun _=>[]) (fun _=>QaO fid Tc):=Qax fun F w a he=>⟨.func (.func fid) #[] (xs.map a.eval).toArray,by simp[execOp,Instr.makeFunc],xs.map a.eval,rfl,h.cells (fun p hp hx=>he p hp (by simp[Op.operands,hx]))⟩
def tnil {α:Type} (xs:List α) (neg:Bool):Ty:=⟨fun _ _ v=>∃b,v=.bool b∧((b !=neg)=true→xs=[]),fun _ _ h=>h⟩
theorem op_eqNil' {xs:List α} {t2:TypeId} (ht:P.underlying t=some (.slice e)) (hx:Fct Γ x (tsl R xs)):OpJ P ⟨d,.binOp .eql t x (.const (.slice none 0 0)) t2,ty,pos,af,g⟩ Γ [] [] (fun _=>[]) (fun _=>tnil xs false):=
 Qax fun F w a he=>by
  obtain⟨ad,cap,hv,_,hr⟩:=hx.use (by simp[Op.operands]) he;refine⟨.bool ad.isNone,?_,_,rfl,fun hb=>?_⟩
  ·simp[execOp,hv,Qf4,eqGuard,binOp,QgE ht]
  ·cases hxs:xs with
   | nil=>rfl
   | cons u us=>obtain⟨b,off,ha,_⟩:=hr (by rw[hxs];simp);rw[ha] at hb;simp at hb
theorem Qsh {M:Fr} {w0:World} {n:Nat} {As:List Atom} {a:Act} {w:World} {s:Nat} {xs:List α} {c1 c2:Code} {Q:Exit→Act→World→Prop} (i:Nat) (hst:St M w0 n Γ As a w) (hi:Γ[i]?=some (s,tnil xs false)) (ht:xs=[]→c1.wp P Q a w) (hf:c2.wp P Q a w):(Code.cond (.tmp s) c1 c2).wp P Q a w:=by
 obtain⟨b,hv,hb⟩:∃b,a.eval (.tmp s)=.bool b∧((b !=false)=true→xs=[]):=hst.slots (s,tnil xs false) (Zq hi)
 cases b with
 | true=>exact wp_cond_true hv (ht (hb rfl))
 | false=>exact wp_cond_false hv hf
end
def Qha {α:Type} {xs:List α} {i:Int} {u:α} (h:idx xs i=some u):xs≠[]:=by
 unfold idx at h;split at h
 ·intro hn;rw[hn] at h;simp at h
 ·cases h
def tvs (x:Value):Ty:=⟨fun _ _ v=>v=x∧x.oneCell'=true,fun _ _ h=>h⟩
@[reducible] def rVal : Rep Value := ⟨fun x => [tvs x],1,false,fun _ => rfl,fun x T h F w v hv => by simp at h; subst h; obtain ⟨h1,h2⟩ := hv; rw [h1]; exact h2,fun _ => rfl⟩
def nilV:Value:=.slice none 0 0
def usAt (us:List Value) (i:Int):Value:=us.getD i.toNat undef
def rows {α:Type} (R:Rep α) (e:TypeId) (xss:List (List α)) (us:List Value):Atom:=
 ⟨fun k=>∃u∈us,u.ownBlock=some k,
  fun F w=>us.length=xss.length∧(∀(i:Nat) xs u,xss[i]?=some xs→us[i]?=some u→(own R e xs u).ok F w)∧us.Pairwise (fun (u v:Value)=>∀k:Nat,u.ownBlock=some k→¬v.ownBlock=some k),
  fun hF hh hf ⟨h1,h2,h3⟩=>⟨h1,fun i xs u hx hu=>Atom.keep _ hF hh (fun k hk=>hf k ⟨u,Zq hu,hk⟩) (h2 i xs u hx hu),h3⟩⟩
structure Focus (A A' B B':Atom):Prop where
 ok:∀F w,B.ok F w→A.ok F w
 sub:∀k,A.fp k→B.fp k
 fpA:∀k,A'.fp k↔A.fp k
 fpB:∀k,B'.fp k↔B.fp k
 back:∀{F F':Blk} {w w':World},B.ok F w→(∀k,F k→F' k)→(∀k,F k→w'.heap[k]?=w.heap[k]?)→(∀k,B.fp k→¬A.fp k→w'.heap[k]?=w.heap[k]?)→A'.ok F' w'→B'.ok F' w'
section
variable {P:Program} {o:Oper} {Γ:List (Nat×Ty)} {U:List Atom} {T:Value→Ty}
theorem OpJ.focus {A A' B B':Atom} (hf:Focus A A' B B') (h:OpJ P o Γ U [A] (fun _=>[A']) T):OpJ P o Γ U [B] (fun _=>[B']) T:=by
 intro M w a hM hU hE _ hUE he;obtain⟨hB,hBM⟩:=hE B (Ze.2 rfl);have hA:Qe5 M [A] w:=fun C hC=>by obtain rfl:=Ze.1 hC;exact⟨hf.ok _ _ hB,fun k hk=>hBM k (hf.sub k hk)⟩
 refine (h M w a hM hU hA (pairwise_singleton _ _) (fun C hC D hD k hk hkD=>?_) he).mono ?_
 ·obtain rfl:=Ze.1 hD;exact hUE C hC B (Ze.2 rfl) k hk (hf.sub k hkD)
 ·rintro v w' ⟨x,hs,hm,ht⟩;have hfree:∀k,free (next M [A] [A']) w' k→free (next M [B] [B']) w' k:=by
   rintro k ⟨h1,h2⟩;refine⟨h1,?_⟩;have hnM:M k→False:=fun hk=>by
    by_cases hA:A.fp k
    ·exact h2 (.inr (Qan.2 ((hf.fpA k).2 hA)))
    ·exact h2 (.inl ⟨hk,fun h=>hA (Qan.1 h)⟩)
   rintro (⟨hk,_⟩ | hk)
   ·exact hnM hk
   ·exact hnM (hBM k ((hf.fpB k).1 (Qan.1 hk)))
  refine⟨x,hs.mono (fun k hk=>Qan.2 (hf.sub k (Qan.1 hk))),Qcs (fun k hk=>?_) ?_,(T x).keep hfree (fun _ _=>rfl) ht⟩
  ·have hkB:=(hf.fpB k).1 hk;exact⟨.inl (Qan.2 hkB),ZR (hM k (hBM k hkB)) hs.size⟩
  ·have hA':=hm.ok A' (Ze.2 rfl);refine hf.back hB (fun k hk=>?_) (fun k hk=>hs.same k hk.1 (fun h=>?_)) (fun k hk hn=>hs.same k (hM k (hBM k hk)) (fun h=>hn (Qan.1 h))) (A'.keep hfree (fun _ _=>rfl) (fun _ _=>rfl) hA')
   ·refine Qc8 hs.size (fun j hj=>hBM j (Qan.1 hj)) (fun C hC j hj=>?_) hk;obtain rfl:=Ze.1 hC;exact .inl (Qan.2 ((hf.fpB j).1 hj))
   ·exact hk.2 (hBM k (hf.sub k (Qan.1 h)))
theorem OpJ.usePart {A B:Atom} {E:List Atom} {N:Value→List Atom} (hok:∀F w,B.ok F w→A.ok F w) (hsub:∀k,A.fp k→B.fp k) (h:OpJ P o Γ (A::U) E N T):OpJ P o Γ (B::U) E N T:=by
 intro M w a hM hU hE hap hUE he;obtain⟨hB,hBM⟩:=hU B (Zk ..);refine h M w a hM (fun C hC=>?_) hE hap (fun C hC D hD k hk hkD=>?_) he
 ·rcases Zm.1 hC with rfl | hC
  ·exact⟨hok _ _ hB,fun k hk=>hBM k (hsub k hk)⟩
  ·exact hU C (Zl _ hC)
 ·rcases Zm.1 hC with rfl | hC
  ·exact hUE B (Zk ..) D hD k (hsub k hk) hkD
  ·exact hUE C (Zl _ hC) D hD k hk hkD
theorem OpJ.useMore {U':List Atom} {E:List Atom} {N:Value→List Atom} (hs:∀A∈U,A∈U') (h:OpJ P o Γ U E N T):OpJ P o Γ U' E N T:=fun M w a hM hU hE hap hUE he=>h M w a hM (fun A hA=>hU A (hs A hA)) hE hap (fun A hA=>hUE A (hs A hA)) he
theorem OpJ.say {Q:Prop} {A:Atom} {E:List Atom} {N:Value→List Atom} (hA:A∈U) (hq:∀F w,A.ok F w→Q) (h:Q→OpJ P o Γ U E N T):OpJ P o Γ U E N T:=fun M w a hM hU hE hap hUE he=>h (hq _ _ (hU A hA).1) M w a hM hU hE hap hUE he
end
section
variable {α:Type} {R:Rep α} {e:TypeId} {xss:List (List α)} {us:List Value}
theorem idx_lt' {β:Type} {xs:List β} {i:Int} {x:β} (h:idx xs i=some x):0≤i∧i.toNat<xs.length∧xs[i.toNat]?=some x:=by
 unfold idx at h;split at h
 ·exact⟨by assumption,(Zf.1 h).1,h⟩
 ·cases h
theorem QmQ {i:Int} {n:Nat} (hl:us.length=n) (hi:i.toNat<n):us[i.toNat]?=some (usAt us i):=by unfold usAt;rw[Zh,Zb (by omega)];rfl
theorem QgU {i:Int} {xs:List α} (h:idx xss i=some xs):∀F w,(rows R e xss us).ok F w→(own R e xs (usAt us i)).ok F w:=by intro F w ⟨h1,h2,_⟩;obtain⟨_,h4,h5⟩:=idx_lt' h;exact h2 _ _ _ h5 (QmQ h1 h4)
theorem Qhr {i:Int} {xs:List α}:∀k,(own R e xs (usAt us i)).fp k→(rows R e xss us).fp k:=by
 intro k hk;have hk':(usAt us i).ownBlock=some k:=hk;refine⟨usAt us i,?_,hk'⟩;unfold usAt at hk' ⊢;rw[Zh] at hk' ⊢
 cases hu:us[i.toNat]? with
 | none=>rw[hu] at hk';simp[undef,Value.ownBlock] at hk'
 | some u=>exact Zq hu
theorem QtV {i:Int} {xs ys:List α} {yss:List (List α)} (h:idx xss i=some xs) (hs:setAt xss i ys=some yss):Focus (own R e xs (usAt us i)) (own R e ys (usAt us i)) (rows R e xss us) (rows R e yss us):=by
 obtain⟨h0,hlt,hx⟩:=idx_lt' h;have hyss:yss=xss.set i.toNat ys:=by unfold setAt at hs;rw[Zc ⟨h0,by omega⟩] at hs;exact (Zs hs).symm
 refine⟨QgU h,Qhr,fun k=>Iff.rfl,fun k=>Iff.rfl,?_⟩;rintro F F' w w' ⟨h1,h2,h3⟩ hF hh hn hA';have hu:=QmQ (us:=us) (i:=i) h1 hlt;refine⟨by rw[hyss];simpa using h1,fun j zs u hj hu'=>?_,h3⟩;rw[hyss,getElem?_set] at hj;by_cases hji:i.toNat=j
 ·subst hji;rw[Zc rfl,Zc hlt] at hj;obtain rfl:=Zs hj;rw[hu] at hu';obtain rfl:=Zs hu';exact hA'
 ·rw[Zd hji] at hj;refine Atom.keep _ hF hh (fun k hk=>hn k ⟨u,Zq hu',hk⟩ (fun hk2=>?_)) (h2 j zs u hj hu');have hk':u.ownBlock=some k:=hk;have hk2':(usAt us i).ownBlock=some k:=hk2;rw[pairwise_iff_getElem] at h3;obtain⟨l1,e1⟩:=Zf.1 hu;obtain⟨l2,e2⟩:=Zf.1 hu';rcases Nat.lt_trichotomy i.toNat j with hlt2 | he | hgt
  ·exact h3 _ _ l1 l2 hlt2 k (by rw[e1];exact hk2') (by rw[e2];exact hk')
  ·exact hji he
  ·exact h3 _ _ l2 l1 hgt k (by rw[e2];exact hk') (by rw[e1];exact hk2')
theorem QiI {F:Blk} {w:World} (h:(rows R e xss us).ok F w):us.length=xss.length:=h.1
end
section
variable {Γ:List (Nat×Ty)} {P:Program} {d:Option Tmp} {ty:TypeId} {pos:String} {af:Array Edge} {g:Option (Nat×Bool)} {x y:Operand} {T:Ty} {t e e1 e2:TypeId} {α:Type} {R:Rep α} {bytes:Nat} {z:Value} {xss:List (List α)} {us:List Value} {v:Value}
theorem QjD {U E:List Atom} {N:Value→List Atom} {o:Oper} {T T':Value→Ty} (h:OpJ P o Γ U E N T) (hw:∀x F w v,(T x).ok F w v→(T' x).ok F w v):OpJ P o Γ U E N T':=fun M w a hM hU hE hap hUE he=>(h M w a hM hU hE hap hUE he).mono fun _ _ ⟨x,h1,h2,h3⟩=>⟨x,h1,h2,hw x _ _ _ h3⟩
theorem Ql2 (ht:P.underlying t=some (.slice e)) (hx:Fct Γ x (tv v)):OpJ P ⟨d,.call { callee:=.builtin .len,args:=#[x],argTypes:=#[t] },ty,pos,af,g⟩ Γ [own rVal e1 us v,rows R e2 xss us] [] (fun _=>[]) (fun _=>tv (.int .i64 xss.length)):=.say (A:=rows R e2 xss us) (by simp) (fun _ _ h=>QiI h) fun hl=>(hl▸(QeI (R:=rVal) (e':=e1) (xs:=us) ht hx).useMore (fun A hA=>by simp at hA;simp[hA]))
theorem Qdz {i:Int} {k:IntKind} {xs:List α} (ht:P.underlying t=some (.slice e)) (hz:TOk P e rVal bytes z) (hx:Fct Γ x (tv v)) (hi:Fct Γ y (tv (.int k i))) (h:idx xss i=some xs):
  OpJ P ⟨d,.indexAddr t x y,ty,pos,af,g⟩ Γ [own rVal e1 us v,rows R e2 xss us] [] (fun _=>[]) (fun _=>tv (Qa9 v (i.toNat * rVal.n))):=
 .say (A:=rows R e2 xss us) (by simp) (fun _ _ h=>QiI h) fun hl=>by obtain⟨h0,hlt,_⟩:=idx_lt' h;exact (Qlb (R:=rVal) (e':=e1) (xs:=us) ht hz hx hi h0 (by omega)).useMore (fun A hA=>by simp at hA;simp[hA])
theorem QtW {i:Int} {k:IntKind} {xs:List α} {yss:List (List α)} (ht:P.underlying t=some (.slice e)) (hz:TOk P e rVal bytes z) (hx:Fct Γ x (tv v)) (hi:Fct Γ y (tv (.int k i))) (h:setAt xss i xs=some yss):
  OpJ P ⟨d,.indexAddr t x y,ty,pos,af,g⟩ Γ [own rVal e1 us v,rows R e2 xss us] [] (fun _=>[]) (fun _=>tv (Qa9 v (i.toNat * rVal.n))):=by
 unfold setAt at h;split at h
 ·rename_i hc;exact Qdz (xs:=xss[i.toNat]'(by omega)) ht hz hx hi (by unfold idx;rw[Zc hc.1,Zb (by omega)])
 ·cases h
theorem Qec {i:Int} {xs:List α} (hz:TOk P t rVal bytes z) (hp:Fct Γ x (tv (Qa9 v (i.toNat * rVal.n)))) (h:idx xss i=some xs):OpJ P ⟨d,.load t x,ty,pos,af,g⟩ Γ [own rVal e1 us v,rows R e2 xss us] [] (fun _=>[]) (fun _=>tv (usAt us i)):=
 .say (A:=rows R e2 xss us) (by simp) (fun _ _ h=>QiI h) fun hl=>by
  obtain⟨h0,hlt,_⟩:=idx_lt' h;have hi:idx us i=some (usAt us i):=by unfold idx;rw[Zc h0];exact QmQ hl hlt
  exact (QjD ((Qdh (R:=rVal) (e:=e1) hz hp hi).useMore (fun A hA=>by simp at hA;simp[hA])) (fun _ _ _ _ h=>h.1))
theorem Qvh {i:Int} {ws:List Value} {u:Value} (hz:TOk P t rVal bytes z) (hp:Fct Γ x (tv (Qa9 v (i.toNat * rVal.n)))) (hx:Fct Γ y (tv u)) (hu:u.oneCell'=true) (h:setAt us i u=some ws):
  OpJ P ⟨d,.store t x y,ty,pos,af,g⟩ Γ [] [own rVal e1 us v] (fun _=>[own rVal e1 ws v]) (fun _=>tany):=
 QgT (R:=rVal) hz hp (hx.weak fun _ _ _ h=>⟨h,hu⟩) h
theorem Qf6 {i j:Int} {k:IntKind} {xs:List α} {u:α} (ht:P.underlying t=some (.slice e)) (hz:TOk P e R bytes z) (hx:Fct Γ x (tv (usAt us i))) (hj:Fct Γ y (tv (.int k j))) (h:idx xss i=some xs) (hu:idx xs j=some u):
  OpJ P ⟨d,.indexAddr t x y,ty,pos,af,g⟩ Γ [rows R e2 xss us] [] (fun _=>[]) (fun _=>tv (Qa9 (usAt us i) (j.toNat * R.n))):=
 .usePart (QgU h) Qhr (QaQ ht hz hx hj hu)
theorem Qie {i j:Int} {k:IntKind} {xs ys:List α} {u:α} (ht:P.underlying t=some (.slice e)) (hz:TOk P e R bytes z) (hx:Fct Γ x (tv (usAt us i))) (hj:Fct Γ y (tv (.int k j))) (h:idx xss i=some xs) (hu:setAt xs j u=some ys):
  OpJ P ⟨d,.indexAddr t x y,ty,pos,af,g⟩ Γ [rows R e2 xss us] [] (fun _=>[]) (fun _=>tv (Qa9 (usAt us i) (j.toNat * R.n))):=
 .usePart (QgU h) Qhr (Qg8 ht hz hx hj hu)
theorem Qhs {i j:Int} {xs:List α} {u:α} (hz:TOk P t R bytes z) (hp:Fct Γ x (tv (Qa9 (usAt us i) (j.toNat * R.n)))) (h:idx xss i=some xs) (hu:idx xs j=some u):OpJ P ⟨d,.load t x,ty,pos,af,g⟩ Γ [rows R e2 xss us] [] (fun _=>[]) (fun _=>R.ty u):=.usePart (QgU h) Qhr (Qdh hz hp hu)
theorem Qi8 {i j:Int} {xs ys:List α} {yss:List (List α)} {u:α} (hz:TOk P t R bytes z) (hp:Fct Γ x (tv (Qa9 (usAt us i) (j.toNat * R.n)))) (hx:Fct Γ y (R.ty u)) (h:idx xss i=some xs) (hu:setAt xs j u=some ys) (hs:setAt xss i ys=some yss):
  OpJ P ⟨d,.store t x y,ty,pos,af,g⟩ Γ [] [rows R e2 xss us] (fun _=>[rows R e2 yss us]) (fun _=>tany):=
 .focus (QtV h hs) (QgT hz hp hx hu)
end
section
variable {M:Fr} {w0:World} {n:Nat} {Γ:List (Nat×Ty)} {As:List Atom} {a:Act} {w:World} {α:Type}
theorem QgV {R:Rep α} {e:TypeId} {xs:List α} {v:Value} {F:Blk} {w:World} (h:(own R e xs v).ok F w):v.oneCell'=true:=by rcases QaS h with⟨hv,_⟩ | ⟨b,cap,cur,hv,_⟩<;>rw[hv]<;>rfl
theorem Qkd {R:Rep α} {e:TypeId} {F:Blk} {w:World}:(own R e ([]:List α) nilV).ok F w:=⟨[],World.ownsRow_nil _ _ _ _,rfl,fun j T u hT=>by simp at hT⟩
theorem St.rows0 (R:Rep α) (e:TypeId) (m:Nat) (h:St M w0 n Γ As a w):St M w0 n Γ (rows R e (replicate m ([]:List α)) (replicate m nilV)::As) a w:=by
 have hfp:∀k,¬(rows R e (replicate m ([]:List α)) (replicate m nilV)).fp k:=by rintro k ⟨u,hu,hk⟩;obtain⟨_,rfl⟩:=mem_replicate.1 hu;simp[nilV,Value.ownBlock] at hk
 have hf:∀k,fps (rows R e (replicate m ([]:List α)) (replicate m nilV)::As) k→fps As k:=by
  rintro k ⟨A,hA,hk⟩;rcases Zm.1 hA with rfl | hA
  ·exact (hfp k hk).elim
  ·exact⟨A,hA,hk⟩
 refine⟨h.size,h.defers,h.grow,h.m0,?_,?_,?_,fun p hp=>p.2.keep (QbA hf) (fun _ _=>rfl) (h.slots p hp)⟩
 ·intro A hA;rcases Zm.1 hA with rfl | hA
  ·refine⟨by simp,fun i xs u hx hu=>?_,?_⟩
   ·obtain⟨_,rfl⟩:=mem_replicate.1 (Zq hx);obtain⟨_,rfl⟩:=mem_replicate.1 (Zq hu);exact Qkd
   ·refine Pairwise.imp_of_mem (R:=fun _ _=>True) (fun {u v} hu _ _ k hk=>?_) (pairwise_of_forall (fun _ _=>trivial));obtain⟨_,rfl⟩:=mem_replicate.1 hu;simp[nilV,Value.ownBlock] at hk
  ·exact A.keep (QbA hf) (fun _ _=>rfl) (fun _ _=>rfl) (h.own A hA)
 ·intro A hA k hk;rcases Zm.1 hA with rfl | hA
  ·exact (hfp k hk).elim
  ·exact h.fresh A hA k hk
 ·exact pairwise_cons.2 ⟨fun B _ k hk=>(hfp k hk).elim,h.apart⟩
theorem St.merge {A B C:Atom} (h:St M w0 n Γ (A::B::As) a w) (hfp:∀k,C.fp k→A.fp k∨B.fp k) (hok:∀F w,A.ok F w→B.ok F w→(∀k,A.fp k→¬B.fp k)→C.ok F w):St M w0 n Γ (C::As) a w:=by
 have hap:=h.apart;unfold QcL at hap;rw[pairwise_cons,pairwise_cons] at hap;obtain⟨h1,h2,h3⟩:=hap;have hf:∀k,fps (C::As) k→fps (A::B::As) k:=by
  rintro k ⟨D,hD,hk⟩;rcases Zm.1 hD with rfl | hD
  ·rcases hfp k hk with h | h
   ·exact⟨A,by simp,h⟩
   ·exact⟨B,by simp,h⟩
  ·exact⟨D,by simp[hD],hk⟩
 refine⟨h.size,h.defers,h.grow,h.m0,?_,?_,?_,fun p hp=>p.2.keep (QbA hf) (fun _ _=>rfl) (h.slots p hp)⟩
 ·intro D hD;rcases Zm.1 hD with rfl | hD
  ·exact hok _ _ (A.keep (QbA hf) (fun _ _=>rfl) (fun _ _=>rfl) (h.own A (by simp))) (B.keep (QbA hf) (fun _ _=>rfl) (fun _ _=>rfl) (h.own B (by simp))) (h1 B (by simp))
  ·exact D.keep (QbA hf) (fun _ _=>rfl) (fun _ _=>rfl) (h.own D (by simp[hD]))
 ·intro D hD k hk;rcases Zm.1 hD with rfl | hD
  ·rcases hfp k hk with hh | hh
   ·exact h.fresh A (by simp) k hh
   ·exact h.fresh B (by simp) k hh
  ·exact h.fresh D (by simp[hD]) k hk
 ·refine pairwise_cons.2 ⟨fun D hD k hk hkD=>?_,h3⟩;rcases hfp k hk with hh | hh
  ·exact h1 D (by simp[hD]) k hh hkD
  ·exact h2 D hD k hh hkD
theorem QxY {R:Rep α} {e:TypeId} {xs:List α} {u:Value} {xss yss:List (List α)} {us:List Value} {i:Int} {F:Blk} {w:World} (hs:setAt xss i xs=some yss) (hA:(own R e xs u).ok F w) (hB:(rows R e xss us).ok F w)
  (hd:∀k,(own R e xs u).fp k→¬(rows R e xss us).fp k):(rows R e yss (us.set i.toNat u)).ok F w:=by
 obtain⟨h1,h2,h3⟩:=hB;unfold setAt at hs;split at hs
 ·rename_i hc;obtain rfl:=Zs hs;have hi:i.toNat<xss.length:=by omega
  refine⟨by simpa using h1,fun j zs u' hj hu'=>?_,?_⟩
  ·rw[getElem?_set] at hj hu';by_cases hji:i.toNat=j
   ·rw[Zc hji,Zc (by omega)] at hj hu';obtain rfl:=Zs hj;obtain rfl:=Zs hu';exact hA
   ·rw[Zd hji] at hj hu';exact h2 j zs u' hj hu'
  ·rw[pairwise_iff_getElem] at h3 ⊢;intro p q hp hq hpq k hk hk2;rw[getElem_set] at hk hk2;simp only[Yv] at hp hq;by_cases hip:i.toNat=p
   ·rw[Zc hip] at hk;rw[Zd (by omega)] at hk2;exact hd k hk ⟨_,Zn hq,hk2⟩
   ·rw[Zd hip] at hk;by_cases hiq:i.toNat=q
    ·rw[Zc hiq] at hk2;exact hd k hk2 ⟨_,Zn hp,hk⟩
    ·rw[Zd hiq] at hk2;exact h3 p q hp hq hpq k hk hk2
 ·cases hs
theorem QtX {l:List Value} {i:Nat} {u v:Value} (h:v∈l.set i u):v=u∨v∈l:=by
 rcases mem_or_eq_of_mem_set h with h | h
 ·exact .inr h
 ·exact .inl h
theorem St.put {R:Rep α} {e:TypeId} {xs:List α} {u:Value} {xss yss:List (List α)} {us:List Value} (i:Int) (hs:setAt xss i xs=some yss) (h:St M w0 n Γ (Sim.own R e xs u::rows R e xss us::As) a w):St M w0 n Γ (rows R e yss (us.set i.toNat u)::As) a w:=
 h.merge (fun k ⟨v,hv,hk⟩=>by
  rcases QtX hv with rfl | hv
  ·exact .inl hk
  ·exact .inr ⟨v,hv,hk⟩) (fun _ _ hA hB hd=>QxY hs hA hB hd)
theorem St.push {R:Rep α} {e:TypeId} {xs:List α} {u:Value} {xss:List (List α)} {us:List Value} (h:St M w0 n Γ (Sim.own R e xs u::rows R e xss us::As) a w):St M w0 n Γ (rows R e (xss++[xs]) (us++[u])::As) a w:=
 h.merge (fun k ⟨v,hv,hk⟩=>by
  rcases Zp.1 hv with hv | hv
  ·exact .inr ⟨v,hv,hk⟩
  ·obtain rfl:=Ze.1 hv;exact .inl hk) (fun F w hA ⟨h1,h2,h3⟩ hd=>by
  refine⟨by simp[h1],fun j zs u' hj hu'=>?_,?_⟩
  ·by_cases hjl:j<xss.length
   ·rw[ZN hjl] at hj;rw[ZN (by omega)] at hu';exact h2 j zs u' hj hu'
   ·rw[ZQ (by omega)] at hj;rw[ZQ (by omega),h1] at hu'
    match hq:j - xss.length,hj,hu' with
    | 0,hj,hu'=>simp at hj hu';subst hj;subst hu';exact hA
    | m+1,hj,_=>simp at hj
  ·refine pairwise_append.2 ⟨h3,pairwise_singleton _ _,fun v hv u' hu' k hk hk2=>?_⟩;obtain rfl:=Ze.1 hu';exact hd k hk2 ⟨v,hv,hk⟩)
theorem Qle {R:Rep α} {e1 e2:TypeId} {xss:List (List α)} {us:List Value} {v:Value} {F F':Blk} {w:World} (hF:∀k,F k→F' k) (h1:(own rVal e1 us v).ok F w) (h2:(rows R e2 xss us).ok F w) (f1:∀k,(own rVal e1 us v).fp k→F' k)
  (f2:∀k,(rows R e2 xss us).fp k→F' k):(tsl (rSl R) xss).ok F' w v:=by
 obtain⟨hl,hr,_⟩:=h2;rcases QaS h1 with⟨hv,hx⟩ | ⟨b,cap,cur,hv,hb,c1,c2,c3,c4⟩
 ·have:xss=[]:=ZO (by rw[←hl,hx];rfl);subst this;exact⟨none,0,hv,Zx _,fun h=>(h rfl).elim⟩
 ·refine⟨_,cap,by rw[hv,hl],by omega,fun _=>⟨b,0,rfl,f1 b (by rw[hv];exact Qbu.2 rfl),fun j T hT=>?_⟩⟩;have hj:j<xss.length:=by
   have:=(Zf.1 hT).1;rw[Qap] at this;simpa using this
  have hT2:T=tsl R xss[j]:=by have:=Qgj (rSl R) xss j 0 xss[j] (Zb hj) Nat.one_pos;simp only[Nat.mul_one,Nat.add_zero] at this;rw[this] at hT;simpa using hT.symm
  subst hT2;have hju:j<us.length:=by omega
  have hju2:j<(cur.toList.take (us.length * 1)).length:=by rw[c4.1,Qap];simpa using hju
  have hT3:(us.flatMap rVal.cs)[j]?=some (tvs us[j]):=by have:=Qgj rVal us j 0 us[j] (Zb hju) Nat.one_pos;simp only[Nat.mul_one,Nat.add_zero] at this;rw[this];rfl
  have hcell:=c4.2 j _ _ hT3 (Zb hju2);obtain⟨hval,_⟩:=hcell;have hcj:j<cur.size:=by simp at hju2;omega
  refine⟨us[j],?_,?_⟩
  ·rw[←hval];simp[World.cell?,hb,hcj]
  ·have hown:=hr j xss[j] us[j] (Zb hj) (Zb hju);exact Qa0.own (x:=.const us[j]) (Γ:=[]) (U:=[Sim.own R e2 xss[j] us[j]]) (R:=R) (e:=e2) (xs:=xss[j]) (v:=us[j]) .k (by simp) F F' w ⟨#[],[]⟩ hF (fun A hA=>by simp at hA;subst hA;exact⟨hown,fun k hk=>f2 k ⟨us[j],Zn hju,hk⟩⟩) (fun p hp=>by simp at hp)
theorem Qa0.table {U:List Atom} {x:Operand} {R:Rep α} {e1 e2:TypeId} {xss:List (List α)} {us:List Value} {v:Value} (h:Fct Γ x (tv v)) (h1:Sim.own rVal e1 us v∈U) (h2:rows R e2 xss us∈U):Qa0 Γ U x (tsl (rSl R) xss):=by intro F F' w a hF hA h0;have hv:a.eval x=v:=h F w a h0;rw[hv];exact Qle hF (hA _ h1).1 (hA _ h2).1 (hA _ h1).2 (hA _ h2).2
theorem Qa0.row {U:List Atom} {x:Operand} {R:Rep α} {e2:TypeId} {xss:List (List α)} {xs:List α} {us:List Value} {i:Int} (h:Fct Γ x (tv (usAt us i))) (hi:idx xss i=some xs) (hU:rows R e2 xss us∈U):Qa0 Γ U x (tsl R xs):=by intro F F' w a hF hA h0;have hv:a.eval x=usAt us i:=h F w a h0;obtain⟨hok,hfp⟩:=hA _ hU;have:=Qa0.own (x:=.const (usAt us i)) (Γ:=[]) (U:=[Sim.own R e2 xs (usAt us i)]) (R:=R) (e:=e2) (xs:=xs) (v:=usAt us i) .k (by simp) F F' w ⟨#[],[]⟩ hF (fun A hA'=>by simp at hA';subst hA';exact⟨QgU hi _ _ hok,fun k hk=>hfp k (Qhr (xss:=xss) k hk)⟩) (fun p hp=>by simp at hp);rw[hv];exact this
end

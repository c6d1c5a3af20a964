/- The logic's seventh part. No condition. -/
import Derived.Test.YtjioihpegfgbpaaGreatDoorSimA
set_option linter.all false
open List
namespace Go.Sim
def FnOk (P:Program) (f:FuncId) (Ts:List Ty) (E:List Atom) (N:Value->List Atom) (T:Value->Ty):Prop:=∀(M:Blk) (w:World) (vs:List Value),(∀k,M k->k<w.heap.size)->QgK M E w->Qda E->QW Ts (free M w) w vs->Calls P f vs.toArray w (λe w'=>∃x v,e=.returned v/\Step (Qay E) w w'/\Made M E (N x) w w'/\(T x).ok (free (next M E (N x)) w') w' v)
def tclo (f:FuncId) (caps:List Value) (Tc:List Ty):Ty:=⟨λF w v=>v=.func (.func f) #[] caps.toArray/\QW Tc F w caps,λhF hh h=>⟨h.1,QW.keep hF hh h.2⟩⟩
structure QB (P:Program) (f:FuncId):Prop where
 fn : ∃ fn, P.funcs[f]? = some fn ∧ (fn.name == "runtime.NumGoroutine") = false ∧ fn.body.isNone = false
def QbR (Γ:List (Nat×Ty)) (U:List Atom) (x:Operand) (T:Ty):Prop:=∀(F F':Blk) (w:World) (a:Act),(∀k,F k->F' k)->(∀A∈U,A.ok F w/\∀k,A.fp k->F' k)->(∀p∈Γ,Operand.tmp p.1=x->p.2.ok F w (get a p.1))->T.ok F' w (a.eval x)
inductive Args (Γ:List (Nat×Ty)) (U:List Atom):List Operand->List Ty->Prop where
 | nil:Args Γ U [] []
 | cons {x:Operand} {T:Ty} {xs:List Operand} {Ts:List Ty} (h:QbR Γ U x T) (hs:Args Γ U xs Ts):Args Γ U (x::xs) (T::Ts)
def Qfv (T:Ty):Prop:=∀(F F':Blk) (w:World) (v:Value),T.ok F w v->T.ok F' w v
def Qh0 (A:Atom):Prop:=∀(F F':Blk) (w:World),A.ok F w->A.ok F' w
def Row.Xr {α:Type} (R:Rep α) (xs:List α) (i m:Nat) (h:i+m<=xs.length):((xs.drop i).take m).flatMap R.cs=((xs.flatMap R.cs).drop (i * R.n)).take (m * R.n):=by
 have e1:xs.flatMap R.cs=(xs.take i).flatMap R.cs++((xs.drop i).take m).flatMap R.cs++((xs.drop i).drop m).flatMap R.cs:=by rw[<-ZN,<-ZN,ZC,take_append_drop,take_append_drop]
 have l1:((xs.take i).flatMap R.cs).length=i * R.n:=by rw[QaF];congr 1;simp;omega
 have l2:(((xs.drop i).take m).flatMap R.cs).length=m * R.n:=by rw[QaF];congr 1;simp;omega
 rw[e1,ZC,<-l1,drop_left,<-l2,take_left]
section
variable {Γ:List (Nat×Ty)} {P:Program} {d:Option Tmp} {ty:TypeId} {pos:String} {af:Array Edge} {g:Option (Nat×Bool)} {x y:Operand} {T:Ty} {t e:TypeId} {α:Type} {R:Rep α} {bytes:Nat} {z:Value}
def op_max {k:IntKind} {a b:Int} {ts:Array TypeId} (hx:Fct Γ x (tv (.int k a))) (hy:Fct Γ y (tv (.int k b))):OpJ P ⟨d,.call { callee:=.builtin .max,args:=#[x,y],argTypes:=ts },ty,pos,af,g⟩ Γ [] [] (λ_=>[]) (λ_=>tv (.int k (imax a b))):=QaQ λF w A he=>by have h1:=hx.val (by simp[Op.operands,Call.operands]) he;have h2:=hy.val (by simp[Op.operands,Call.operands]) he;exact⟨_,by simp[execOp,resolve,invoke,builtin,Builtin.max_,Builtin.max2,h1,h2,imax],rfl⟩
def op_min {k:IntKind} {a b:Int} {ts:Array TypeId} (hx:Fct Γ x (tv (.int k a))) (hy:Fct Γ y (tv (.int k b))):OpJ P ⟨d,.call { callee:=.builtin .min,args:=#[x,y],argTypes:=ts },ty,pos,af,g⟩ Γ [] [] (λ_=>[]) (λ_=>tv (.int k (imin a b))):=QaQ λF w A he=>by have h1:=hx.val (by simp[Op.operands,Call.operands]) he;have h2:=hy.val (by simp[Op.operands,Call.operands]) he;exact⟨_,by simp[execOp,resolve,invoke,builtin,Builtin.min_,Builtin.min2,h1,h2,imin],rfl⟩
inductive Bd (Γ:List (Nat×Ty)):Option Operand->Int->Int->Prop where
 | no (dflt:Int):Bd Γ none dflt dflt
 | op {x:Operand} {k:IntKind} {i dflt:Int} (h:Fct Γ x (tv (.int k i))):Bd Γ (some x) dflt i
def Bd.use {b:Option Operand} {i dflt:Int} {xs:Array Operand} {F:Blk} {w:World} {A:Act} (h:Bd Γ b dflt i) (hx:∀y,b=some y->y∈xs) (he:Qi7 Γ xs F w A):(b.map A.eval=none/\i=dflt)\/∃k,b.map A.eval=some (.int k i):=by
 cases h with
 | no=>exact .inl ⟨rfl,rfl⟩
 | op h=>exact .inr ⟨_,Zu some (h.val (hx _ rfl) he)⟩
def QlE {xs ys:List α} {lo hi:Option Operand} {i j:Int} (ht:P.underlying t=some (.slice e)) (hz:TOk P e R bytes z) (hx:Fct Γ x (tsl R xs)) (hlo:Bd Γ lo 0 i) (hhi:Bd Γ hi xs.length j) (h:sub xs i j=some ys):
  OpJ P ⟨d,.slice t x lo hi none,ty,pos,af,g⟩ Γ [] [] (λ_=>[]) (λ_=>tsl R ys):=
 QaQ λF w A he=>by
  obtain⟨ad,cap,hv,hlc,hr⟩:=hx.use (by simp[Op.operands]) he;obtain⟨ti,hti,_,hs,_⟩:=hz.info;unfold sub at h;split at h
  ·rename_i hc;obtain⟨c0,c1,c2⟩:=hc;simp only[ZB] at h;have hb:(Instr.sliceBounds true xs.length cap (lo.map A.eval) (hi.map A.eval) none).run P w=.ok (i.toNat,j.toNat,cap) w:=by
    have ej:((j.toNat:Nat):Int)=j:=by omega
    rcases hlo.use (by rintro y rfl;simp[Op.operands]) he with⟨e1,e2⟩ | ⟨k1,e1⟩<;>rcases hhi.use (by rintro y rfl;simp[Op.operands]) he with⟨f1,f2⟩ | ⟨k2,f1⟩
    ·rw[e1,f1,e2,f2];simp[Instr.sliceBounds]
    ·rw[e1,f1,e2];simp only[Instr.sliceBounds,Sem.run_bind,Sem.run_pure,Zj,run_sliceBound w k2 j cap _ (by omega) (by omega)];rfl
    ·rw[e1,f1,f2];simp only[Instr.sliceBounds,Sem.run_bind,Sem.run_pure,Zj,run_sliceBound w k1 i xs.length _ c0 (by omega)];simp
    ·rw[e1,f1];simp only[Instr.sliceBounds,Sem.run_bind,Sem.run_pure,Zj,run_sliceBound w k2 j cap _ (by omega) (by omega),run_sliceBound w k1 i j.toNat _ c0 (by omega)]
   refine⟨.slice (if cap=i.toNat then ad else ad.map (·.add (i.toNat * R.n))) (j.toNat - i.toNat) (cap - i.toNat),?_,?_⟩
   ·simp[execOp,Instr.sliceAt,run_underlying ht,Instr.slice,hv,hb,sizeOf,typeInfo,hti,hs]
   ·have hyl:ys.length=j.toNat - i.toNat:=by rw[<-h];simp;omega
    refine⟨_,cap - i.toNat,by rw[hyl],by omega,λhne=>?_⟩;have hpos:0<ys.length:=by
     rcases Nat.eq_zero_or_pos ys.length with h0 | h0
     ·exact (hne (ZU h0)).elim
     ·exact h0
    obtain⟨b,off,ha,hb,hrow⟩:=hr (λhn=>by rw[hn] at c2;simp at c2;omega);refine⟨b,off+i.toNat * R.n,?_,hb,?_⟩
    ·rw[Zb (by omega),ha];simp[Qbb]
    ·rw[<-h,Row.Xr R xs _ _ (by omega)];refine (hrow.part (i.toNat * R.n)).head ?_;rw[ZE,take_eq_take_iff];simp
  ·cases h
def Qa8 {xs:List α} {v:Value} {F:Blk} {w:World} (h:(own R e xs v).ok F w):
  (v=.slice none 0 0/\xs=[])\/∃b cap cur,v=.slice (some ⟨b,0,none⟩) xs.length cap/\w.heap[b]?=some (.cells cur e (0,0))/\xs.length<=cap/\cap<=maxLen/\cur.size=cap * R.n/\QW (xs.flatMap R.cs) F w (cur.toList.take (xs.length * R.n)):=by
 obtain⟨us,ho,hc⟩:=h;rcases ho.2 with⟨hv,hn⟩ | ⟨b,cap,cur,hv,_,hb,h1,h2,h3,h4⟩
 ·exact .inl ⟨hv,ZU hn⟩
 ·exact .inr ⟨b,cap,cur,hv,hb,h1,h2,h3,by rw[h4];exact hc⟩
def QhK {xs:List α} {b cap:Nat} {cur:Array Value} {F:Blk} {w:World} (hb:w.heap[b]?=some (.cells cur e (0,0))) (h1:xs.length<=cap) (h2:cap<=maxLen) (h3:cur.size=cap * R.n) (h4:QW (xs.flatMap R.cs) F w (cur.toList.take (xs.length * R.n))):
  (own R e xs (.slice (some ⟨b,0,none⟩) xs.length cap)).ok F w:=
 ⟨cur.toList.take (xs.length * R.n),⟨by rw[h4.1,QaF],.inr ⟨b,cap,cur,rfl,Nat.zero_le _,hb,h1,h2,h3,rfl⟩⟩,h4⟩
def QW.append {Ts Us:List Ty} {F:Blk} {w:World} {us vs:List Value} (h:QW Ts F w us) (k:QW Us F w vs):QW (Ts++Us) F w (us++vs):=by
 have e1:=h.1;refine⟨by simp[h.1,k.1],λj T u hT hu=>?_⟩;by_cases hj:j<Ts.length
 ·rw[ZD hj] at hT;rw[ZD (by omega)] at hu;exact h.2 j T u hT hu
 ·rw[Zv (by omega)] at hT;rw[Zv (by omega),e1] at hu;exact k.2 _ T u hT hu
def Qbz {xs:List α} {k b n c:Nat}:(own R e xs (.slice (some ⟨b,0,none⟩) n c)).fp k↔k=b:=by
 show some b=some k↔k=b;constructor
 ·intro h;cases h;rfl
 ·rintro rfl;rfl
def QsM {xs ys:List α} {v:Value} {F F':Blk} {w:World} {ad:Option Addr} {c:Nat} (ht:P.underlying t=some (.slice e)) (hz:TOk P e R bytes z) (hb:bytes<=2048)
  (ho:(own R e xs v).ok F w) (hF:∀k,F k->k<w.heap.size/\¬(own R e xs v).fp k) (hFF:∀k,F k->F' k) (hr:ys≠[]->∃b off,ad=some ⟨b,off,none⟩/\Row (ys.flatMap R.cs) F w b off) (h:rm (xs.length+ys.length)=some ()):
  ∃v' w',(Builtin.append_ #[t,t] ty #[v,.slice ad ys.length c]).run P w=.ok v' w'/\Step (own R e xs v).fp w w'/\(∀k,(own R e (xs++ys) v').fp k->((own R e xs v).fp k\/w.heap.size<=k)/\k<w'.heap.size)/\(own R e (xs++ys) v').ok F' w':=by
 obtain⟨ti,hti,hzz,hs,hbb⟩:=hz.info;have hroom:xs.length+ys.length<=68719476736:=by unfold rm at h;split at h<;>first | assumption | cases h
 have hlt:∀k,(own R e xs v).fp k->k<w.heap.size:=by
  intro k hk;rcases Qa8 ho with⟨hv,_⟩ | ⟨b,cap,cur,hv,hbk,_⟩
  ·rw[hv] at hk;cases hk
  ·rw[hv] at hk;rw[Qbz.1 hk];exact (Array.getElem?_eq_some_iff.1 hbk).1
 by_cases hy:ys=[]
 ·subst hy;refine⟨v,w,?_,Step.refl _ _,λk hk=>⟨.inl hk,hlt k hk⟩,?_⟩
  ·rcases Qa8 ho with⟨hv,hx⟩ | ⟨b,cap,cur,hv,hbk,h1,_⟩
   ·subst hv;cases ad<;>simp[Builtin.append_,run_underlying ht,sizeOf,typeInfo,hti,Builtin.lenOf,Builtin.firstCells,loadCells,loadCellsFrom]
   ·subst hv;cases ad<;>simp[Builtin.append_,run_underlying ht,sizeOf,typeInfo,hti,Builtin.lenOf,Builtin.firstCells,loadCells,loadCellsFrom,h1,storeCells]
  ·rw[Yd];exact Atom.keep _ hFF (λ_ _=>rfl) (λ_ _=>rfl) ho
 ·obtain⟨b,off,ha,hrow⟩:=hr hy;subst ha;obtain⟨news,hcn,hcell⟩:=QqL _ _ hrow;have hm:0<ys.length:=by
   rcases Nat.eq_zero_or_pos ys.length with h0 | h0
   ·exact (hy (ZU h0)).elim
   ·exact h0
  have hnl:news.length=ys.length * ti.size:=by rw[hcn.1,QaF,hs]
  have hnews:∀j u,news[j]?=some u->w.cell? ((⟨b,off,none⟩:Addr).add j)=some u:=λj u hu=>by rw[Qbb];exact hcell j u hu
  have hone:∀u∈news,u.oneCell'=true:=by
   intro u hu;obtain⟨j,hj⟩:=ZV.1 hu;have hjl:j<(ys.flatMap R.cs).length:=by rw[<-hcn.1];exact (Zc.1 hj).1
   have hT:=hcn.2 j _ u (Zf hjl) hj;obtain⟨q,_,hq⟩:=Yh.1 (Zn hjl);exact R.one q _ hq F w u hT
  have hzn:z.cells.size=R.n:=hz.zc;rcases Qa8 ho with⟨hv,hx⟩ | ⟨gb,cap,cur,hv,hbk,h1,h2,h3,h4⟩
  ·subst hv;subst hx;simp only[Zk,Nat.zero_add] at hroom;have hbyt:ys.length * ti.bytes<=281474976710656:=by
    rw[hbb]
    calc ys.length * bytes<=68719476736 * 2048:=Nat.mul_le_mul hroom hb
     _<=281474976710656:=by omega
   have hrun:=run_append_nil (P:=P) w t ty e ti z ht hti hzz ⟨b,off,none⟩ ys.length c news hnl hnews hm (by omega) hbyt;have hge:=grownCap_ge w ys.length 0 e;have hle:=grownCap_le_maxLen w ys.length 0 e (by unfold maxLen;omega);refine⟨_,_,hrun,⟨rfl,rfl,rfl,by simp,λk hk _=>Go.RowKit.Below.heap_alloc w.drew _ k hk⟩,?_,?_⟩
   ·intro k hk;rw[Qbz.1 hk];exact⟨.inr (Zp _),by simp⟩
   ·rw[Ya];refine QhK (cur:=news.toArray++Builtin.zeroCells z.cells (grownCap w ys.length 0 e - ys.length)) (heap_alloc_new w.drew _) hge hle ?_ ?_
    ·simp only[Array.size_append,size_toArray,size_zeroCells,hnl,hzn,hs,<-Nat.add_mul];congr 1;omega
    ·have e1:(news.toArray++Builtin.zeroCells z.cells (grownCap w ys.length 0 e - ys.length)).toList.take (ys.length * R.n)=news:=by
      rw[Array.toList_append,take_left' (by rw[hnl,hs])]
     rw[e1];exact hcn.Xq hFF (λk hk=>Go.RowKit.Below.heap_alloc w.drew _ k (hF k hk).1)
  ·subst hv;have holdl:(cur.toList.take (xs.length * R.n)).length=xs.length * ti.size:=by rw[h4.1,QaF,hs]
   have hxl:xs.length * R.n<=cur.size:=by rw[h3];exact Nat.mul_le_mul_right _ h1
   by_cases hcap:xs.length+ys.length<=cap
   ·have hfit:xs.length * ti.size+news.length<=cur.size:=by rw[hnl,h3,hs,<-Nat.add_mul];exact Nat.mul_le_mul_right _ hcap
    have hrun:=run_append_room (P:=P) w t ty e ti ht hti gb xs.length cap cur hbk ⟨b,off,none⟩ ys.length c news hnl hnews hone hcap hfit;refine⟨_,_,hrun,Qfo (Qbz.2 rfl),?_,?_⟩
    ·intro k hk;rw[Qbz.1 hk];exact⟨.inl (Qbz.2 rfl),by simpa using (Array.getElem?_eq_some_iff.1 hbk).1⟩
    ·rw[<-Zd];refine QhK (setRow_heap w gb cur _ e _ hbk) (by simpa using hcap) h2 ?_ ?_
     ·simp only[size_toArray,Zd,ZE,ZR,Array.length_toList,hs];rw[hs] at hfit;omega
     ·have e1:(cur.toList.take (xs.length * ti.size)++news++cur.toList.drop (xs.length * ti.size+news.length)).take ((xs++ys).length * R.n)=cur.toList.take (xs.length * R.n)++news:=by
       rw[hs];refine take_left' ?_;rw[Zd,hnl,hs,ZE,Zd,Nat.add_mul];simp;omega
      simp only;rw[e1,ZN];refine (h4.append hcn).Xq hFF (λk hk=>setRow_other w gb k _ (λe=>?_));exact (hF k hk).2 (Qbz.2 e)
   ·have hbyt:(xs.length+ys.length) * ti.bytes<=140737488355328:=by
     rw[hbb]
     calc (xs.length+ys.length) * bytes<=68719476736 * 2048:=Nat.mul_le_mul hroom hb
      _<=140737488355328:=by omega
    have holds:∀j u,(cur.toList.take (xs.length * R.n))[j]?=some u->w.cell? ((⟨gb,0,none⟩:Addr).add j)=some u:=by
     intro j u hu;rw[getElem?_take] at hu;split at hu
     ·rw[Qbb,Nat.zero_add];simpa[World.cell?,hbk] using hu
     ·cases hu
    have hrun:=run_append_grow (P:=P) w t ty e ti z ht hti hzz ⟨gb,0,none⟩ xs.length cap _ holdl holds ⟨b,off,none⟩ ys.length c news hnl hnews (by omega) (by omega) (growslice_fits (by omega) hbyt);have hge:=grownCap_ge w (xs.length+ys.length) cap e;have hle:=grownCap_le_maxLen w (xs.length+ys.length) cap e (by unfold maxLen;omega);refine⟨_,_,hrun,⟨rfl,rfl,rfl,by simp,λk hk _=>Go.RowKit.Below.heap_alloc w.drew _ k hk⟩,?_,?_⟩
    ·intro k hk;rw[Qbz.1 hk];exact⟨.inr (Zp _),by simp⟩
    ·have el:xs.length+ys.length=(xs++ys).length:=by simp
     have hge':=hge;rw[el] at hge' hle ⊢;refine QhK (heap_alloc_new w.drew _) hge' hle ?_ ?_
     ·simp only[Array.size_append,size_toArray,size_zeroCells,holdl,hnl,hzn,hs,<-Nat.add_mul];congr 1;omega
     ·have e1:(((cur.toList.take (xs.length * R.n)).toArray++news.toArray++Builtin.zeroCells z.cells (grownCap w (xs++ys).length cap e - (xs++ys).length)).toList).take ((xs++ys).length * R.n)=cur.toList.take (xs.length * R.n)++news:=by
       rw[Array.toList_append,Array.toList_append];refine take_left' ?_;simp only[Zd,holdl,hnl,hs,Nat.add_mul]
      rw[e1,ZN];exact (h4.append hcn).Xq hFF (λk hk=>Go.RowKit.Below.heap_alloc w.drew _ k (hF k hk).1)
def QS {xs ys:List α} {v:Value} (ht:P.underlying t=some (.slice e)) (hz:TOk P e R bytes z) (hb:bytes<=2048) (hx:Fct Γ x (tv v)) (hy:Fct Γ y (tsl R ys)) (h:rm (xs.length+ys.length)=some ()):
  OpJ P ⟨d,.call { callee:=.builtin .append,args:=#[x,y],argTypes:=#[t,t] },ty,pos,af,g⟩ Γ [] [own R e xs v] (λv'=>[own R e (xs++ys) v']) (λv'=>tv v'):=by
 intro M w A hM _ hE _ _ he;obtain⟨ho,hfp⟩:=hE _ (Zg.2 rfl);have hgiv:=QdA hE;have h1:=hx.val (by simp[Op.operands,Call.operands]) he;obtain⟨ad,cap,h2,_,hr⟩:=hy.use (by simp[Op.operands,Call.operands]) he;obtain⟨v',w',hrun,hstep,hfp',hok⟩:=QsM (ty:=ty) (c:=cap) (F:=free M w) (F':=λk=>k<w.heap.size/\¬M k) ht hz hb ho (λk hk=>⟨hk.1,λhf=>hk.2 (hfp k hf)⟩) (λk hk=>hk)
  (λhne=>let⟨b,off,ha,_,hrow⟩:=hr hne;⟨b,off,ha,hrow⟩) h
 have hexec:(execOp A.eval (⟨d,.call { callee:=.builtin .append,args:=#[x,y],argTypes:=#[t,t] },ty,pos,af,g⟩:Oper)).run P w=.ok (.value v') w':=by simp only[execOp,resolve,invoke,builtin,Sem.run_bind,Sem.run_pure,Zj,map_toArray,Yf,Yi,h1,h2,hrun]
 simp only[Does,hexec];refine⟨v',hstep.mono (λk hk=>Qak.2 hk),QbQ (λk hk=>⟨(hfp' k hk).1.imp Qak.2 id,(hfp' k hk).2⟩) ?_,rfl⟩;refine Atom.keep _ (λk hk=>?_) (λ_ _=>rfl) (λ_ _=>rfl) hok;refine QcF hstep.size hgiv (λB hB j hj=>?_) hk;obtain rfl:=Zg.1 hB;exact (hfp' j hj).1.imp Qak.2 id
def QbR.of {U:List Atom} (h:Fct Γ x T):QbR Γ U x T:=λF _ w a hF _ h0=>T.keep hF (λ_ _=>rfl) (h F w a h0)
def QbR.own {U:List Atom} {xs:List α} {v:Value} (h:Fct Γ x (tv v)) (hU:own R e xs v∈U):QbR Γ U x (tsl R xs):=by
 intro F F' w a hF hA h0;have hv:a.eval x=v:=h F w a h0;obtain⟨hok,hfp⟩:=hA _ hU;rw[hv];rcases Qa8 hok with⟨hvv,hx⟩ | ⟨b,cap,cur,hvv,hb,h1,h2,h3,h4⟩
 ·subst hx;exact⟨none,0,hvv,Zp _,λh=>(h rfl).elim⟩
 ·refine⟨_,cap,hvv,h1,λ_=>⟨b,0,rfl,hfp b (by rw[hvv];exact Qbz.2 rfl),λj T hT=>?_⟩⟩;have hj:j<(cur.toList.take (xs.length * R.n)).length:=by rw[h4.1];exact (Zc.1 hT).1
  refine⟨(cur.toList.take (xs.length * R.n))[j],?_,T.keep hF (λ_ _=>rfl) (h4.2 j T _ hT (Zf hj))⟩;have hj2:j<cur.size:=by simp at hj;omega
  simp[World.cell?,hb,hj2]
def QbR.box {U:List Atom} {Ts:List Ty} {q:Value} (h:Fct Γ x (tv q)) (hU:box Ts q∈U):QbR Γ U x (tand (tv q) (tptr Ts)):=by intro F F' w a hF hA h0;have hv:a.eval x=q:=h F w a h0;obtain⟨hok,hfp⟩:=hA _ hU;obtain⟨b,hq,hrow⟩:=QjX hok;refine⟨hv,b,0,hv.trans hq,hfp b hq,λj T hj=>?_⟩;obtain⟨u,hu,ht⟩:=hrow j T hj;exact⟨u,hu,T.keep hF (λ_ _=>rfl) ht⟩
def Fct.fn {f:FuncId}:Fct Γ (.func f) (tclo f [] []):=λ_ _ _ _=>⟨rfl,rfl,λj T u h=>by simp at h⟩
inductive Capt (U:List Atom):List Value->List Ty->Prop where
 | nil:Capt U [] []
 | box {q:Value} {Ts:List Ty} {qs:List Value} {Tc:List Ty} (hU:Sim.box Ts q∈U) (hs:Capt U qs Tc):Capt U (q::qs) (tand (tv q) (tptr Ts)::Tc)
 | val {q:Value} {qs:List Value} {Tc:List Ty} (hs:Capt U qs Tc):Capt U (q::qs) (tv q::Tc)
def Capt.cells {U:List Atom} {qs:List Value} {Tc:List Ty} (h:Capt U qs Tc) {F F':Blk} {w:World} (hF:∀k,F k->F' k) (hA:∀A∈U,A.ok F w/\∀k,A.fp k->F' k):QW Tc F' w qs:=by
 induction h with
 | nil=>exact⟨rfl,λj T u h=>by simp at h⟩
 | @box q Ts qs Tc hU hs ih=>
  obtain⟨hok,hfp⟩:=hA _ hU;obtain⟨b,hq,hrow⟩:=QjX hok;refine⟨by simp[ih.1],λj T u hT hu=>?_⟩
  cases j with
  | zero=>simp at hT hu;subst hT;subst hu;refine⟨rfl,b,0,hq,hfp b hq,λj T hj=>?_⟩;obtain⟨u,hu,ht⟩:=hrow j T hj;exact⟨u,hu,T.keep hF (λ_ _=>rfl) ht⟩
  | succ j=>exact ih.2 j T u (by simpa using hT) (by simpa using hu)
 | @val q qs Tc hs ih=>
  refine⟨by simp[ih.1],λj T u hT hu=>?_⟩
  cases j with
  | zero=>simp at hT hu;subst hT;subst hu;exact rfl
  | succ j=>exact ih.2 j T u (by simpa using hT) (by simpa using hu)
def Args.cells {U:List Atom} {xs:List Operand} {Ts:List Ty} {F F':Blk} {w:World} {a:Act} (h:Args Γ U xs Ts) (hF:∀k,F k->F' k) (hU:∀A∈U,A.ok F w/\∀k,A.fp k->F' k) (he:∀p∈Γ,Operand.tmp p.1∈xs->p.2.ok F w (get a p.1)):
  QW Ts F' w (xs.map a.eval):=by
 induction h with
 | nil=>exact⟨rfl,λj T u h=>by simp at h⟩
 | @cons x T xs Ts h hs ih=>
  have h1:=h F F' w a hF hU (λp hp e=>he p hp (by rw[e];simp));have h2:=ih (λp hp e=>he p hp (by simp[e]));refine⟨by simp[h2.1],λj T' u hT hu=>?_⟩
  cases j with
  | zero=>simp at hT hu;subst hT;subst hu;exact h1
  | succ j=>exact h2.2 j T' u (by simpa using hT) (by simpa using hu)
def QnI {f:Operand} {fid:FuncId} {caps:List Value} {xs:List Operand} {ts:Array TypeId} {w:World} {a:Act} (hc:QB P fid) (hf:a.eval f=.func (.func fid) #[] caps.toArray):
  (execOp a.eval (⟨d,.call { callee:=.value f,args:=xs.toArray,argTypes:=ts },ty,pos,af,g⟩:Oper)).run P w=.ok (.enter fid (xs.map a.eval++caps).toArray) w:=by
 obtain⟨fn,h1,h2,h3⟩:=hc;simp only[execOp,resolve,Deferred.ofValue,hf,invoke,callFunc,Sem.run_bind,Sem.run_pure,run_program,Zj,h1,h2,h3,ZP,if_false,map_toArray];simp
def Qw7 {f:Operand} {fid:FuncId} {caps:List Value} {Tc Ts:List Ty} {xs:List Operand} {ts:Array TypeId} {E:List Atom} {N:Value->List Atom} {T:Value->Ty} (hc:QB P fid) (hfn:FnOk P fid (Ts++Tc) E N T)
  (hf:Fct Γ f (tclo fid caps Tc)) (ha:Args Γ [] xs Ts):OpJ P ⟨d,.call { callee:=.value f,args:=xs.toArray,argTypes:=ts },ty,pos,af,g⟩ Γ [] E N T:=by
 intro M w a hM _ hE hap _ he;obtain⟨hfv,hcap⟩:=hf.use (by simp[Op.operands,Call.operands]) he;have hargs:=ha.cells (F:=free M w) (F':=free M w) (a:=a) (λ_ h=>h) (λA hA=>by simp at hA) (λp hp hx=>he p hp (by simp[Op.operands,Call.operands,hx]));have hcells:=hargs.append hcap;simp only[Does,QnI hc hfv];refine Calls.mono (hfn M w _ hM hE hap hcells) ?_;rintro e w' ⟨x,v,he,h⟩;exact⟨v,he,x,h⟩
def QvI {f:Operand} {fid:FuncId} {caps:List Value} {Tc Ts:List Ty} {xs:List Operand} {ts:Array TypeId} {E:List Atom} {N:Value->List Atom} {T:Value->Ty} (U:List Atom) (hc:QB P fid) (hfn:FnOk P fid (Ts++Tc) E N T)
  (hf:QbR Γ U f (tclo fid caps Tc)) (ha:Args Γ U xs Ts) (hT:∀x,Qfv (T x)) (hN:∀x,∀A∈N x,Qh0 A):OpJ P ⟨d,.call { callee:=.value f,args:=xs.toArray,argTypes:=ts },ty,pos,af,g⟩ Γ U E N T:=by
 intro M w a hM hU hE hap hUE he;have hM':∀k,(M k/\¬∃A∈U,A.fp k)->k<w.heap.size:=λk h=>hM k h.1;have hsub:∀k,free M w k->free (λk=>M k/\¬∃A∈U,A.fp k) w k:=λk h=>⟨h.1,λhm=>h.2 hm.1⟩;have hUF:∀A∈U,A.ok (free M w) w/\∀k,A.fp k->free (λk=>M k/\¬∃A∈U,A.fp k) w k:=λA hA=>⟨(hU A hA).1,λk hk=>⟨hM k ((hU A hA).2 k hk),λhm=>hm.2 ⟨A,hA,hk⟩⟩⟩;have hE':QgK (λk=>M k/\¬∃A∈U,A.fp k) E w:=λB hB=>⟨B.keep hsub (λ_ _=>rfl) (λ_ _=>rfl) (hE B hB).1,λk hk=>⟨(hE B hB).2 k hk,λ⟨A,hA,hkA⟩=>hUE A hA B hB k hkA hk⟩⟩;obtain⟨hfv,hcap⟩:=hf (free M w) _ w a hsub hUF (λp hp hx=>he p hp (by simp[Op.operands,Call.operands,hx]));have hargs:=ha.cells (a:=a) hsub hUF (λp hp hx=>he p hp (by simp[Op.operands,Call.operands,hx]));have hcells:=hargs.append hcap;simp only[Does,QnI hc hfv];refine Calls.mono (hfn _ w _ hM' hE' hap hcells) ?_;rintro e w' ⟨x,v,he,hg,hN',hT'⟩;exact⟨v,he,x,hg,⟨hN'.apart,hN'.place,λA hA=>hN x A hA _ _ _ (hN'.ok A hA)⟩,hT x _ _ _ _ hT'⟩
end
section
variable {σ ρ:Type}
def iter (body:σ->Option (σ⊕ρ)):Nat->σ->Option ρ
 | 0,_=>none
 | n+1,s=>match body s with
  | none=>none
  | some (.inl s')=>iter body n s'
  | some (.inr r)=>some r
def QvJ (body:σ->Option (σ⊕ρ)):∀(n m:Nat) (s:σ) (r q:ρ),iter body n s=some r->iter body m s=some q->r=q:=by
 intro n
 induction n with
 | zero=>intro m s r q h;cases h
 | succ n ih=>
  intro m s r q h k
  cases m with
  | zero=>cases k
  | succ m=>
   simp only[iter] at h k
   cases hb:body s with
   | none=>rw[hb] at h;cases h
   | some o=>
    rw[hb] at h k
    cases o with
    | inl s'=>exact ih m s' r q h k
    | inr r'=>simp only[ZB] at h k;rw[<-h,<-k]
open Classical in
noncomputable def Qz (body:σ->Option (σ⊕ρ)) (s:σ):Option ρ:=if h:∃r n,iter body n s=some r then some h.choose else none
def Qdc {body:σ->Option (σ⊕ρ)} {s:σ} {r:ρ}:Qz body s=some r↔∃n,iter body n s=some r:=by
 unfold Qz;constructor
 ·intro h;split at h
  ·rename_i hx;simp only[ZB] at h;rw[<-h];exact hx.choose_spec
  ·cases h
 ·rintro ⟨n,hn⟩;have hx:∃r n,iter body n s=some r:=⟨r,n,hn⟩;rw[dif_pos hx];obtain⟨m,hm⟩:=hx.choose_spec;exact Zu some (QvJ body m n s _ _ hm hn)
def Qbc (body:σ->Option (σ⊕ρ)) (s:σ):Qz body s=match body s with | none=>none | some (.inl s')=>Qz body s' | some (.inr r)=>some r:=by
 cases hb:body s with
 | none=>
  simp only
  cases ht:Qz body s with
  | none=>rfl
  | some r=>
   obtain⟨n,hn⟩:=Qdc.1 ht
   cases n with
   | zero=>cases hn
   | succ n=>simp[iter,hb] at hn
 | some o=>
  cases o with
  | inr r=>exact Qdc.2 ⟨1,by simp[iter,hb]⟩
  | inl s'=>
   simp only
   cases ht:Qz body s' with
   | some r=>obtain⟨n,hn⟩:=Qdc.1 ht;exact Qdc.2 ⟨n+1,by simp[iter,hb,hn]⟩
   | none=>
    cases hs:Qz body s with
    | none=>rfl
    | some r=>
     obtain⟨n,hn⟩:=Qdc.1 hs
     cases n with
     | zero=>cases hn
     | succ n=>simp only[iter,hb] at hn;rw[Qdc.2 ⟨n,hn⟩] at ht;cases ht
end
def bind_some {α β:Type} {x:Option α} {f:α->Option β} {r:β} (h:x.bind f=some r):∃a,x=some a/\f a=some r:=by
 cases x with
 | none=>cases h
 | some a=>exact⟨a,rfl,h⟩
def Qhp {α:Type} {b:Bool} {x y:Option α} {r:α} (hb:b=true) (h:(if b=true then x else y)=some r):x=some r:=by rw[Ze hb] at h;exact h
def Qhq {α:Type} {b:Bool} {x y:Option α} {r:α} (hb:b=false) (h:(if b=true then x else y)=some r):y=some r:=by rw[hb] at h;exact h
def opt {α:Type} (c:Bool) (x:Option α) (dflt:α):Option α:=if c=true then x else some dflt
def QaZ {α:Type} {c:Bool} {x:Option α} {dflt r:α} (h:opt c x dflt=some r) (hc:c=true):x=some r:=by unfold opt at h;rw[Ze hc] at h;exact h
@[reducible] def v0 (A : Atom) : Ver := ⟨[],λ_ => A⟩
@[reducible] def v1 (i : Nat) (f : Value -> Atom) : Ver := ⟨[i],λl => f (l.getD 0 undef)⟩
@[reducible] def v2 (i j : Nat) (f : Value -> Value -> Atom) : Ver := ⟨[i,j],λl => f (l.getD 0 undef) (l.getD 1 undef)⟩
@[reducible] def v3 (i j k : Nat) (f : Value -> Value -> Value -> Atom) : Ver := ⟨[i,j,k],λl => f (l.getD 0 undef) (l.getD 1 undef) (l.getD 2 undef)⟩
section
variable {P:Program} {ops:List Oper} {V:List Ver} {new:Nat->Value} {i:Nat} {Γ:List (Nat×Ty)} {o:Oper} {os:List Oper} {is:List Info}
def Run.x {U E:List Atom} {N:Value->List Atom} {T':Value->Ty} {Tn:Ty} (T:TyN) (us es ms:List Nat) (hU:us.map (λu=>ver V u new)=U) (hE:es.map (λu=>ver V u new)=E) (hN:(λx=>ms.map λu=>ver V u (upd new i x))=N)
  (hT:(λx=>T.ty (upd new i x))=T') (hTn:T.ty new=Tn) (hg:o.guard=none) (h:OpJ P o Γ U E N T') (hs:Run P ops V new (i+1) (addD o.dst Tn Γ) os is):Run P ops V new i Γ (o::os) (⟨T,us,es,ms⟩::is):=
 .step (.plain hg (by subst hU;subst hE;subst hN;subst hT;exact h)) (by subst hTn;exact hs)
def Run.p {T:Ty} (hg:o.guard=none) (h:OpJ P o Γ [] [] (λ_=>[]) (λ_=>T)) (hs:Run P ops V new (i+1) (addD o.dst T Γ) os is):Run P ops V new i Γ (o::os) (⟨⟨[],λ_=>T⟩,[],[],[]⟩::is):=.step (.plain hg h) hs
def Run.q {d:Option Tmp} {ty:TypeId} {pos:String} {af:Array Edge} {t:Nat} {T:Ty} (k:Nat) (h:Γ[k]?=some (t,T)) (hs:Run P ops V new (i+1) (addD d T Γ) os is):Run P ops V new i Γ (⟨d,.move (.tmp t),ty,pos,af,none⟩::os) (⟨⟨[],λ_=>T⟩,[],[],[]⟩::is):=.p rfl (QL (.t k h)) hs
def Run.u {T:Ty} {U:List Atom} (us:List Nat) (hU:us.map (λu=>ver V u new)=U) (hg:o.guard=none) (h:OpJ P o Γ U [] (λ_=>[]) (λ_=>T)) (hs:Run P ops V new (i+1) (addD o.dst T Γ) os is):
  Run P ops V new i Γ (o::os) (⟨⟨[],λ_=>T⟩,us,[],[]⟩::is):=
 .step (.plain hg (by subst hU;exact h)) hs
def Run.ud {f:Value->Ty} {U:List Atom} (j:Nat) (hj:Nat.beq j i=false) (us:List Nat) (hU:us.map (λu=>ver V u new)=U) (hg:o.guard=none) (h:OpJ P o Γ U [] (λ_=>[]) (λ_=>f (new j))) (hs:Run P ops V new (i+1) (addD o.dst (f (new j)) Γ) os is):
  Run P ops V new i Γ (o::os) (⟨⟨[j],λl=>f (l.getD 0 undef)⟩,us,[],[]⟩::is):=
 .step (.plain hg (by
  have e:(λx=>TyN.ty (upd new i x) ⟨[j],λl=>f (l.getD 0 undef)⟩)=λ_=>f (new j):=by
   funext x
   show f (upd new i x j)=_;rw[Qji (Nat.ne_of_beq_eq_false hj)]
  subst hU;rw[e];exact h)) hs
def Run.pd {f:Value->Ty} (j:Nat) (hj:Nat.beq j i=false) (hg:o.guard=none) (h:OpJ P o Γ [] [] (λ_=>[]) (λ_=>f (new j))) (hs:Run P ops V new (i+1) (addD o.dst (f (new j)) Γ) os is): Run P ops V new i Γ (o::os) (⟨⟨[j],λl=>f (l.getD 0 undef)⟩,[],[],[]⟩::is):=Run.ud j hj [] rfl hg h hs
def Run.ud2 {f:Value->Value->Ty} {U:List Atom} (j k:Nat) (hj:Nat.beq j i=false) (hk:Nat.beq k i=false) (us:List Nat) (hU:us.map (λu=>ver V u new)=U) (hg:o.guard=none) (h:OpJ P o Γ U [] (λ_=>[]) (λ_=>f (new j) (new k)))
  (hs:Run P ops V new (i+1) (addD o.dst (f (new j) (new k)) Γ) os is):Run P ops V new i Γ (o::os) (⟨⟨[j,k],λl=>f (l.getD 0 undef) (l.getD 1 undef)⟩,us,[],[]⟩::is):=
 .step (.plain hg (by
  have e:(λx=>TyN.ty (upd new i x) ⟨[j,k],λl=>f (l.getD 0 undef) (l.getD 1 undef)⟩)=λ_=>f (new j) (new k):=by
   funext x
   show f (upd new i x j) (upd new i x k)=_;rw[Qji (Nat.ne_of_beq_eq_false hj),Qji (Nat.ne_of_beq_eq_false hk)]
  subst hU;rw[e];exact h)) hs
def Run.e {f:Value->Ty} {U E:List Atom} {N:Value->List Atom} (us es ms:List Nat) (hU:us.map (λu=>ver V u new)=U) (hE:es.map (λu=>ver V u new)=E) (hN:(λx=>ms.map λu=>ver V u (upd new i x))=N) (hg:o.guard=none) (h:OpJ P o Γ U E N f)
  (hs:Run P ops V new (i+1) (addD o.dst (f (new i)) Γ) os is):Run P ops V new i Γ (o::os) (⟨⟨[i],λl=>f (l.getD 0 undef)⟩,us,es,ms⟩::is):=
 .step (.plain hg (by
  have e:(λx=>TyN.ty (upd new i x) ⟨[i],λl=>f (l.getD 0 undef)⟩)=f:=by
   funext x
   show f (upd new i x i)=_;rw[QqG]
  subst hU;subst hE;subst hN;rw[e];exact h)) hs
def Run.m {f:Value->Ty} {U:List Atom} {N:Value->List Atom} (us ms:List Nat) (hU:us.map (λu=>ver V u new)=U) (hN:(λx=>ms.map λu=>ver V u (upd new i x))=N) (hg:o.guard=none) (h:OpJ P o Γ U [] N f) (hs:Run P ops V new (i+1) (addD o.dst (f (new i)) Γ) os is):Run P ops V new i Γ (o::os) (⟨⟨[i],λl=>f (l.getD 0 undef)⟩,us,[],ms⟩::is):=Run.e us [] ms hU rfl hN hg h hs
def Run.g {T:Ty} {g dg:Nat} {want c:Bool} (hg:o.guard=some (g,want)) (hd:(ops[g]?).bind (·.dst)=some dg) (hc:Grd Γ dg want c) (h:c=true->OpJ P o Γ [] [] (λ_=>[]) (λ_=>T))
  (hs:Run P ops V new (i+1) (addD o.dst (QgJ c T) Γ) os is):Run P ops V new i Γ (o::os) (⟨⟨[],λ_=>QgJ c T⟩,[],[],[]⟩::is):=
 .step (.guard g want dg c T hg hd hc rfl rfl rfl (by simp) h) hs
def Run.gu {T:Ty} {U:List Atom} {g dg:Nat} {want c:Bool} (us:List Nat) (hU:us.map (λu=>ver V u new)=U) (hg:o.guard=some (g,want)) (hd:(ops[g]?).bind (·.dst)=some dg) (hc:Grd Γ dg want c) (h:c=true->OpJ P o Γ U [] (λ_=>[]) (λ_=>T))
  (hs:Run P ops V new (i+1) (addD o.dst (QgJ c T) Γ) os is):Run P ops V new i Γ (o::os) (⟨⟨[],λ_=>QgJ c T⟩,us,[],[]⟩::is):=
 .step (.guard g want dg c T hg hd hc rfl rfl rfl (by simp) (by subst hU;exact h)) hs
def Run.ge {f:Value->Ty} {U E:List Atom} {N:Bool->Value->List Atom} {g dg:Nat} {want c:Bool} (us es ms:List Nat) (hU:us.map (λu=>ver V u new)=U) (hE:es.map (λu=>ver V u new)=E) (hN:(λx=>ms.map λu=>ver V u (upd new i x))=N c)
  (hg:o.guard=some (g,want)) (hd:(ops[g]?).bind (·.dst)=some dg) (hc:Grd Γ dg want c) (h:c=true->OpJ P o Γ U E (N true) f) (h0:N false undef=E) (hs:Run P ops V new (i+1) (addD o.dst (QgJ c (f (new i))) Γ) os is):
  Run P ops V new i Γ (o::os) (⟨⟨[i],λl=>QgJ c (f (l.getD 0 undef))⟩,us,es,ms⟩::is):=
 .step (.guardE g want dg c hg hd hc (λhct=>by
   have e:(λx=>TyN.ty (upd new i x) ⟨[i],λl=>QgJ c (f (l.getD 0 undef))⟩)=λx=>QgJ c (f x):=by
    funext x
    show QgJ c (f (upd new i x i))=_;rw[QqG]
   rw[e];simp only[hU,hE,hN];intro M w a h1 h2 h3 h4 h5 h6;have:=h hct M w a h1 h2 h3 h4 h5 h6;rw[hct];refine this.mono ?_;rintro v w' ⟨x,hs,hm,ht⟩;exact⟨x,hs,hm,λ_=>ht,λhf=>by cases hf⟩) (λhcf=>by
   have e1:(ms.map λu=>ver V u (upd new i undef))=N c undef:=congrFun hN undef;refine⟨?_,?_⟩
   ·show (ms.map λu=>ver V u (upd new i undef))=es.map λu=>ver V u new;rw[e1,hE,hcf,h0]
   ·intro F w;show (QgJ c (f (upd new i undef i))).ok F w undef;rw[hcf];exact⟨λhf=>(by cases hf),λ_=>rfl⟩)) hs
end
def verA (As:List Atom) (Ns:List Ver):List Ver:=As.map v0++Ns
def QqN (As:List Atom) (Ns:List Ver) (u:Nat) (A:Atom) (h:As[u]?=some A) (x:Nat->Value):ver (verA As Ns) u x=A:=by have hu:u<As.length:=(Zc.1 h).1;have h':As[u]=A:=(Zc.1 h).2;simp[ver,verA,ZD,hu,h']
def QbA {P:Program} {ops:List Oper} {M:Fr} {w0:World} {n:Nat} {Γ:List (Nat×Ty)} {As:List Atom} {a:Act} {w:World} {id:Nat} {draw:Bool} {Q:Exit->Act->World->Prop} {is:List Info} (hm:P.follows .mixedOrders=true) (Ns:List Ver)
  (hst:St M w0 n Γ As a w) (hrun:∀new,Run P ops (verA As Ns) new 0 Γ ops is) (hchk:chk ops is ((verA As Ns).map (·.ds)) (Γ.map (·.1)) As.length (verA As Ns).length n=true)
  (hQ:∀new a' w',St M w0 n (outG ops is Γ new) (QhY (verA As Ns) is new) a' w'->Q .normal a' w'):(Code.region id ops.toArray draw).wp P Q a w:=
 Qp9 _ is hm hst hrun (λu A h x=>QqN As Ns u A h x) hchk hQ
def wr {P:Program} {ops:List Oper} {M:Fr} {w0:World} {n:Nat} {Γ:List (Nat×Ty)} {As:List Atom} {a:Act} {w:World} {id:Nat} {draw:Bool} {Q:Exit->Act->World->Prop} {is:List Info} (hm:P.follows .mixedOrders=true) (Ns:List Ver)
  (hst:St M w0 n Γ As a w) (hrun:∀new,Run P ops (verA As Ns) new 0 Γ ops is) (hQ:∀new a' w',St M w0 n (outG ops is Γ new) (QhY (verA As Ns) is new) a' w'->Q .normal a' w')
  (hchk:chk ops is ((verA As Ns).map (·.ds)) (Γ.map (·.1)) As.length (verA As Ns).length n=true:=by kernel_rfl):(Code.region id ops.toArray draw).wp P Q a w:=QbA hm Ns hst hrun hchk hQ
def sr {P:Program} {ops:List Oper} {M:Fr} {w0:World} {n:Nat} {Γ:List (Nat×Ty)} {As:List Atom} {a:Act} {w:World} {id:Nat} {draw:Bool} {Q:Exit->Act->World->Prop} {is:List Info} {c:Code} (hm:P.follows .mixedOrders=true) (Ns:List Ver)
  (hst:St M w0 n Γ As a w) (hrun:∀new,Run P ops (verA As Ns) new 0 Γ ops is) (hQ:∀new a' w',St M w0 n (outG ops is Γ new) (QhY (verA As Ns) is new) a' w'->c.wp P Q a' w')
  (hchk:chk ops is ((verA As Ns).map (·.ds)) (Γ.map (·.1)) As.length (verA As Ns).length n=true:=by kernel_rfl):(Code.seq (Code.region id ops.toArray draw) c).wp P Q a w:=wp_seq (QbA hm Ns hst hrun hchk hQ)
section
variable {P:Program} {s:Nat} {T:Ty} {Γ:List (Nat×Ty)} {e0 e1 e2 e3 e4 e5 e6 e7 e8 e9 e10 e11 e12 e13 e14 e15 e16 e17 e18 e19 e20 e21 e22 e23 e24 e25 e26 e27 e28 e29:Nat×Ty}
def z0:Fct ((s,T)::Γ) (.tmp s) T:=.t 0 rfl
def z1:Fct (e0::(s,T)::Γ) (.tmp s) T:=.t 1 rfl
def z2:Fct (e0::e1::(s,T)::Γ) (.tmp s) T:=.t 2 rfl
def z3:Fct (e0::e1::e2::(s,T)::Γ) (.tmp s) T:=.t 3 rfl
def z4:Fct (e0::e1::e2::e3::(s,T)::Γ) (.tmp s) T:=.t 4 rfl
def z5:Fct (e0::e1::e2::e3::e4::(s,T)::Γ) (.tmp s) T:=.t 5 rfl
def z6:Fct (e0::e1::e2::e3::e4::e5::(s,T)::Γ) (.tmp s) T:=.t 6 rfl
def z7:Fct (e0::e1::e2::e3::e4::e5::e6::(s,T)::Γ) (.tmp s) T:=.t 7 rfl
def z8:Fct (e0::e1::e2::e3::e4::e5::e6::e7::(s,T)::Γ) (.tmp s) T:=.t 8 rfl
def z9:Fct (e0::e1::e2::e3::e4::e5::e6::e7::e8::(s,T)::Γ) (.tmp s) T:=.t 9 rfl
def z10:Fct (e0::e1::e2::e3::e4::e5::e6::e7::e8::e9::(s,T)::Γ) (.tmp s) T:=.t 10 rfl
def z11:Fct (e0::e1::e2::e3::e4::e5::e6::e7::e8::e9::e10::(s,T)::Γ) (.tmp s) T:=.t 11 rfl
def z12:Fct (e0::e1::e2::e3::e4::e5::e6::e7::e8::e9::e10::e11::(s,T)::Γ) (.tmp s) T:=.t 12 rfl
def z13:Fct (e0::e1::e2::e3::e4::e5::e6::e7::e8::e9::e10::e11::e12::(s,T)::Γ) (.tmp s) T:=.t 13 rfl
def z14:Fct (e0::e1::e2::e3::e4::e5::e6::e7::e8::e9::e10::e11::e12::e13::(s,T)::Γ) (.tmp s) T:=.t 14 rfl
def z15:Fct (e0::e1::e2::e3::e4::e5::e6::e7::e8::e9::e10::e11::e12::e13::e14::(s,T)::Γ) (.tmp s) T:=.t 15 rfl
def z16:Fct (e0::e1::e2::e3::e4::e5::e6::e7::e8::e9::e10::e11::e12::e13::e14::e15::(s,T)::Γ) (.tmp s) T:=.t 16 rfl
def z17:Fct (e0::e1::e2::e3::e4::e5::e6::e7::e8::e9::e10::e11::e12::e13::e14::e15::e16::(s,T)::Γ) (.tmp s) T:=.t 17 rfl
def z18:Fct (e0::e1::e2::e3::e4::e5::e6::e7::e8::e9::e10::e11::e12::e13::e14::e15::e16::e17::(s,T)::Γ) (.tmp s) T:=.t 18 rfl
def z19:Fct (e0::e1::e2::e3::e4::e5::e6::e7::e8::e9::e10::e11::e12::e13::e14::e15::e16::e17::e18::(s,T)::Γ) (.tmp s) T:=.t 19 rfl
def z20:Fct (e0::e1::e2::e3::e4::e5::e6::e7::e8::e9::e10::e11::e12::e13::e14::e15::e16::e17::e18::e19::(s,T)::Γ) (.tmp s) T:=.t 20 rfl
def z21:Fct (e0::e1::e2::e3::e4::e5::e6::e7::e8::e9::e10::e11::e12::e13::e14::e15::e16::e17::e18::e19::e20::(s,T)::Γ) (.tmp s) T:=.t 21 rfl
def z22:Fct (e0::e1::e2::e3::e4::e5::e6::e7::e8::e9::e10::e11::e12::e13::e14::e15::e16::e17::e18::e19::e20::e21::(s,T)::Γ) (.tmp s) T:=.t 22 rfl
def z23:Fct (e0::e1::e2::e3::e4::e5::e6::e7::e8::e9::e10::e11::e12::e13::e14::e15::e16::e17::e18::e19::e20::e21::e22::(s,T)::Γ) (.tmp s) T:=.t 23 rfl
def z25:Fct (e0::e1::e2::e3::e4::e5::e6::e7::e8::e9::e10::e11::e12::e13::e14::e15::e16::e17::e18::e19::e20::e21::e22::e23::e24::(s,T)::Γ) (.tmp s) T:=.t 25 rfl
def z26:Fct (e0::e1::e2::e3::e4::e5::e6::e7::e8::e9::e10::e11::e12::e13::e14::e15::e16::e17::e18::e19::e20::e21::e22::e23::e24::e25::(s,T)::Γ) (.tmp s) T:=.t 26 rfl
end
def Run.n {P:Program} {ops:List Oper} {V:List Ver} {new:Nat->Value} {i:Nat} {Γ:List (Nat×Ty)}:Run P ops V new i Γ [] []:=.nil i Γ
def Run.o {P:Program} {ops:List Oper} {V:List Ver} {new:Nat->Value} {i:Nat} {Γ:List (Nat×Ty)} {os:List Oper} {is:List Info} {T:Ty} {d:Option Tmp} {ins:Op} {ty:TypeId} {pos:String} {af:Array Edge} (h:OpJ P ⟨d,ins,ty,pos,af,none⟩ Γ [] [] (λ_=>[]) (λ_=>T)) (hs:Run P ops V new (i+1) (addD d T Γ) os is): Run P ops V new i Γ (⟨d,ins,ty,pos,af,none⟩::os) (⟨⟨[],λ_=>T⟩,[],[],[]⟩::is):=Run.p rfl h hs
section
variable {P:Program} {M:Fr} {M0:Blk} {w0:World} {n:Nat} {Γ:List (Nat×Ty)} {As:List Atom} {a:Act} {w:World}
def Qbq {M0:Blk} {As Bs:List Atom} (h:∀k,fps Bs k->fps As k):∀k,free (hold M0 As) w k->free (hold M0 Bs) w k:=λ_ hk=>⟨hk.1,λhm=>hk.2 (hm.imp id (h _))⟩
def St.facts {Γ':List (Nat×Ty)} (h:St M w0 n Γ As a w) (h':∀p∈Γ',p∈Γ):St M w0 n Γ' As a w:=⟨h.size,h.defers,h.grow,h.m0,h.own,h.fresh,h.apart,λp hp=>h.Xo p (h' p hp)⟩
def QbD (Γ:List (Nat×Ty)) (is:List Nat):List (Nat×Ty):=is.filterMap λi=>Γ[i]?
def St.pick (h:St M w0 n Γ As a w) (is:List Nat):St M w0 n (QbD Γ is) As a w:=h.facts λp hp=>by obtain⟨i,_,hi⟩:=Yj.1 hp;exact Zo hi
def St.to (h:St M w0 n Γ As a w) (is:List Nat) (Γ':List (Nat×Ty)) (Bs:List Atom) (h1:QbD Γ is=Γ') (h2:As=Bs):St M w0 n Γ' Bs a w:=by subst h1 h2;exact h.pick is
def St.sub {Bs:List Atom} (h:St M w0 n Γ As a w) (hs:Bs.Sublist As):St M w0 n Γ Bs a w:=by have hf:∀k,fps Bs k->fps As k:=λk ⟨A,hA,hk⟩=>⟨A,hs.subset hA,hk⟩;exact⟨h.size,h.defers,h.grow,h.m0,λA hA=>A.keep (Qbq hf) (λ_ _=>rfl) (λ_ _=>rfl) (h.own A (hs.subset hA)),λA hA=>h.fresh A (hs.subset hA),h.apart.sublist hs,λp hp=>p.2.keep (Qbq hf) (λ_ _=>rfl) (h.Xo p hp)⟩
def St.perm {Bs:List Atom} (h:St M w0 n Γ As a w) (hp:As.Perm Bs):St M w0 n Γ Bs a w:=by have hf:∀k,fps Bs k->fps As k:=λk ⟨A,hA,hk⟩=>⟨A,hp.mem_iff.2 hA,hk⟩;exact⟨h.size,h.defers,h.grow,h.m0,λA hA=>A.keep (Qbq hf) (λ_ _=>rfl) (λ_ _=>rfl) (h.own A (hp.mem_iff.2 hA)),λA hA=>h.fresh A (hp.mem_iff.2 hA),(hp.pairwise_iff (λ{x y} hxy k hk hx=>hxy k hx hk)).1 h.apart,λp hp'=>p.2.keep (Qbq hf) (λ_ _=>rfl) (h.Xo p hp')⟩
def St.add {s:Nat} {T U:Ty} (i:Nat) (h:St M w0 n Γ As a w) (hi:Γ[i]?=some (s,T)) (hw:∀F w v,T.ok F w v->U.ok F w v):St M w0 n ((s,U)::Γ) As a w:=
 ⟨h.size,h.defers,h.grow,h.m0,h.own,h.fresh,h.apart,λp hp=>by
  rcases Zm.1 hp with rfl | hp
  ·exact hw _ _ _ (h.Xo (s,T) (Zo hi))
  ·exact h.Xo p hp⟩
def St.nil {α:Type} (R:Rep α) (e:TypeId) (h:St M w0 n Γ As a w):St M w0 n Γ (Sim.own R e ([]:List α) (.slice none 0 0)::As) a w:=by
 have hf:∀k,fps (Sim.own R e ([]:List α) (.slice none 0 0)::As) k->fps As k:=by
  rintro k ⟨A,hA,hk⟩;rcases Zm.1 hA with rfl | hA
  ·cases hk
  ·exact⟨A,hA,hk⟩
 refine⟨h.size,h.defers,h.grow,h.m0,?_,?_,?_,λp hp=>p.2.keep (Qbq hf) (λ_ _=>rfl) (h.Xo p hp)⟩
 ·intro A hA;rcases Zm.1 hA with rfl | hA
  ·exact⟨[],World.ownsRow_nil _ _ _ _,rfl,λj T u hT=>by simp at hT⟩
  ·exact A.keep (Qbq hf) (λ_ _=>rfl) (λ_ _=>rfl) (h.own A hA)
 ·intro A hA k hk;rcases Zm.1 hA with rfl | hA
  ·cases hk
  ·exact h.fresh A hA k hk
 ·refine pairwise_cons.2 ⟨λB _ k hk=>?_,h.apart⟩;cases hk
def St.share {α:Type} {R:Rep α} {e:TypeId} {xs:List α} {v:Value} {s:Nat} (i:Nat) (h:St M w0 n Γ (Sim.own R e xs v::As) a w) (hi:Γ[i]?=some (s,tv v)):St M w0 n ((s,tsl R xs)::Γ) As a w:=by
 have hs:=h.sub (sublist_cons_self (Sim.own R e xs v) As);refine⟨hs.size,hs.defers,hs.grow,hs.m0,hs.own,hs.fresh,hs.apart,λp hp=>?_⟩;rcases Zm.1 hp with rfl | hp
 ·have hv:get a s=v:=h.Xo (s,tv v) (Zo hi);have hok:=h.own (Sim.own R e xs v) (by simp);have hfp:∀k,(Sim.own R e xs v).fp k->free (hold M.m As) w k:=by
   intro k hk;have hfr:=h.fresh _ (by simp) k hk;refine⟨hfr.2,?_⟩;rintro (hm | ⟨A,hA,hkA⟩)
   ·have:=h.m0 k hm;rcases hfr.1 with hb | hb
    ·exact this.2 hb
    ·omega
   ·exact (pairwise_cons.1 h.apart).1 A hA k hk hkA
  have:=QbR.own (x:=.tmp s) (Γ:=[(s,tv v)]) (U:=[Sim.own R e xs v]) (R:=R) (e:=e) (xs:=xs) (v:=v) (Fct.t 0 rfl) (by simp) (free (hold M.m (Sim.own R e xs v::As)) w) (free (hold M.m As) w) w a
   (Qbq (λk ⟨A,hA,hk⟩=>⟨A,by simp[hA],hk⟩)) (λA hA=>by simp at hA;subst hA;exact⟨hok,hfp⟩) (λp hp _=>by simp at hp;subst hp;exact hv)
  exact this
 ·exact hs.Xo p hp
def Qmp {Ts:List Ty} {q:Value} {F F':Blk} {w:World} (h:(box Ts q).ok F w) (hF:∀k,F k->F' k) (hfp:∀k,(box Ts q).fp k->F' k):(tptr Ts).ok F' w q:=by obtain⟨b,hq,hr⟩:=QjX h;exact⟨b,0,hq,hfp b hq,λj T hj=>let⟨u,hu,ht⟩:=hr j T hj;⟨u,hu,T.keep hF (λ_ _=>rfl) ht⟩⟩
def St.Xk {Ts:List Ty} {q:Value} {s:Nat} (i:Nat) (h:St M w0 n Γ (box Ts q::As) a w) (hi:Γ[i]?=some (s,tv q)):St M w0 n ((s,tand (tv q) (tptr Ts))::Γ) As a w:=by
 have hs:=h.sub (sublist_cons_self (box Ts q) As);refine⟨hs.size,hs.defers,hs.grow,hs.m0,hs.own,hs.fresh,hs.apart,λp hp=>?_⟩;rcases Zm.1 hp with rfl | hp
 ·have hv:get a s=q:=h.Xo (s,tv q) (Zo hi);refine⟨hv,?_⟩;simp only[hv];refine Qmp (h.own (box Ts q) (by simp)) (Qbq (λk ⟨A,hA,hk⟩=>⟨A,by simp[hA],hk⟩)) (λk hk=>?_);have hfr:=h.fresh _ (by simp) k hk;refine⟨hfr.2,?_⟩;rintro (hm | ⟨A,hA,hkA⟩)
  ·have:=h.m0 k hm;rcases hfr.1 with hb | hb
   ·exact this.2 hb
   ·omega
  ·exact (pairwise_cons.1 h.apart).1 A hA k hk hkA
 ·exact hs.Xo p hp
def Qsp {s:Nat} {b:Bool} {x y:Code} {Q:Exit->Act->World->Prop} (i:Nat) (hst:St M w0 n Γ As a w) (hi:Γ[i]?=some (s,tv (.bool b))) (ht:b=true->x.wp P Q a w) (hf:b=false->y.wp P Q a w):(Code.cond (.tmp s) x y).wp P Q a w:=by have hv:a.eval (.tmp s)=.bool b:=hst.Xo (s,tv (.bool b)) (Zo hi);exact wp_cond_split hv ht hf
def wt {s:Nat} {b:Bool} {x y:Code} {Q:Exit->Act->World->Prop} (hst:St M w0 n ((s,tv (.bool b))::Γ) As a w) (ht:b=true->x.wp P Q a w) (hf:b=false->y.wp P Q a w):(Code.cond (.tmp s) x y).wp P Q a w:=Qsp 0 hst rfl ht hf
def QrR {σ ρ:Type} {c:Code} {Q:Exit->Act->World->Prop} (body:σ->Option (σ⊕ρ)) (I:σ->Act->World->Prop) (out:ρ) (s0:σ) (h:Qz body s0=some out) (h0:I s0 a w)
  (round:∀s o a w,I s a w->body s=some o->(∀r,o=.inr r->r=out)->c.wp P (Exit.then (λa' w'=>∃s',o=.inl s'/\I s' a' w') Q) a w):(Code.loop c).wp P Q a w:=by
 obtain⟨n,hn⟩:=Qdc.1 h;intro b k cs;have key:∀n s a w,iter body n s=some out->I s a w->∃e a' w',Q e a' w'/\Arrives P (lone (b.at a (.code c::.inLoop c::k)) cs w) b k cs e a' w':=by
  intro n
  induction n with
  | zero=>intro s a w h;cases h
  | succ n ih=>
   intro s a w h hI;simp only[iter] at h
   cases hb:body s with
   | none=>rw[hb] at h;cases h
   | some o=>
    rw[hb] at h;obtain⟨e,a₁,w₁,hq,harr⟩:=round s o a w hI hb (by rintro r rfl;simpa using h) b (.inLoop c::k) cs
    cases e with
    | normal=>obtain⟨s',rfl,hI'⟩:=hq;obtain⟨e₂,a₂,w₂,hq₂,harr₂⟩:=ih s' a₁ w₁ h hI';exact⟨e₂,a₂,w₂,hq₂,.of_steps (Steps.trans harr (.one step_inLoop)) harr₂⟩
    | exit id=>exact⟨_,a₁,w₁,hq,.pass (x:=.inLoop c) rfl (λ_ _=>.inl (by simp)) harr⟩
    | goto l=>exact⟨_,a₁,w₁,hq,.pass (x:=.inLoop c) rfl (λ_ _=>.inl (by simp)) harr⟩
    | ret=>exact⟨_,a₁,w₁,hq,.pass (x:=.inLoop c) rfl (λ_ _=>.inl (by simp)) harr⟩
    | panic ch=>exact⟨_,a₁,w₁,hq,.pass (x:=.inLoop c) rfl (λ_ _=>.inl (by simp)) harr⟩
    | outgrown=>exact⟨_,a₁,w₁,hq,.pass (x:=.inLoop c) rfl (λ_ _=>.inl (by simp)) harr⟩
 obtain⟨e,a',w',hq,harr⟩:=key n s0 a w hn h0;exact⟨e,a',w',hq,.of_steps (.one step_loop) harr⟩
def Ret (P:Program) (fn:Func) (M:Blk) (E:List Atom) (w0:World) (N:Value->List Atom) (T:Value->Ty):Exit->Act->World->Prop:=bodyPost P fn (λe w'=>∃x v,e=.returned v/\Step (Qay E) w0 w'/\Made M E (N x) w0 w'/\(T x).ok (free (next M E (N x)) w') w' v)
def ents (Ts:List Ty):List (Nat×Ty):=Ts.zipIdx.map λp=>(p.2,p.1)
structure Qdd (M0:Blk) (E:List Atom) (M:Fr):Prop where
 b:M.b=Qay E
 m:∀k,M0 k↔M.m k\/Qay E k
 d:∀k,M.m k->¬Qay E k
 e:M.d=[]
def FnOk.enter {f:FuncId} {fn:Func} {c:Code} {Ts:List Ty} {E:List Atom} {N:Value->List Atom} {T:Value->Ty} (hf:P.funcs[f]?=some fn) (hb:fn.body=some c) (hn:fn.ntmps=n) (hl:Ts.length<=n)
  (h:∀M0 M w a,Qdd M0 E M->St M w n (ents Ts) E a w->c.wp P (Ret P fn M0 E w N T) a w):FnOk P f Ts E N T:=by
 intro M0 w vs hM hE hap hc;have hpl:Qdd M0 E ⟨λk=>M0 k/\¬Qay E k,Qay E,[]⟩:=by
  refine⟨rfl,λk=>⟨λhk=>?_,?_⟩,λk hk=>hk.2,rfl⟩
  ·by_cases he:Qay E k
   ·exact .inr he
   ·exact .inl ⟨hk,he⟩
  ·rintro (hk | hk)
   ·exact hk.1
   ·exact QdA hE k hk
 have hF:∀k,free M0 w k->free (hold (λk=>M0 k/\¬Qay E k) E) w k:=by
  rintro k ⟨h1,h2⟩;refine⟨h1,?_⟩;rintro (hm | hm)
  ·exact h2 hm.1
  ·exact h2 (QdA hE k hm)
 refine calls_of_wp hf hb (h M0 _ w _ hpl ?_);have hvl:=hc.1;refine⟨by simp[hn];omega,rfl,Step.refl _ _,λk hk=>⟨hM k hk.1,hk.2⟩,λA hA=>A.keep hF (λ_ _=>rfl) (λ_ _=>rfl) (hE A hA).1,λA hA k hk=>⟨.inl ⟨A,hA,hk⟩,hM k ((hE A hA).2 k hk)⟩,hap,?_⟩;intro p hp;obtain⟨⟨T',i⟩,hmem,rfl⟩:=ZM.1 hp;obtain⟨j,hj⟩:=ZV.1 hmem;rw[getElem?_zipIdx] at hj
 cases hT:Ts[j]? with
 | none=>simp[hT] at hj
 | some T''=>
  simp only[hT,ZO,ZB,Yo] at hj;obtain⟨rfl,rfl⟩:=hj;have hlt:j<vs.length:=by rw[hvl];exact (Zc.1 hT).1
  have hget:get { tmps:=vs.toArray++Array.replicate (fn.ntmps - vs.toArray.size) undef,defers:=[] } (0+j)=vs[j]:=by unfold get;simp[Array.getElem?_append,hlt]
  show T''.ok _ _ (get _ (0+j));rw[hget];exact T''.keep hF (λ_ _=>rfl) (hc.2 j T'' vs[j] hT (Zf hlt))
inductive Qh1 (P:Program) (Γ:List (Nat×Ty)) (As:List Atom):List ResultVar->List Ty->Prop where
 | nil:Qh1 P Γ As [] []
 | tmp {t:Nat} {T:Ty} {rs:List ResultVar} {Ts:List Ty} (h:Fct Γ (.tmp t) T) (hs:Qh1 P Γ As rs Ts):Qh1 P Γ As (.tmp t::rs) (T::Ts)
 | cell {p:Nat} {t:TypeId} {q:Value} {α:Type} {R:Rep α} {u:α} {bytes:Nat} {z:Value} {Us:List Ty} {rs:List ResultVar} {Ts:List Ty} (hz:TOk P t R bytes z) (hp:Fct Γ (.tmp p) (tv q)) (i:Nat) (hA:As[i]?=some (box Us q)) (hU:R.cs u=Us.take (R.cs u).length)
   (hs:Qh1 P Γ As rs Ts):Qh1 P Γ As (.cell p t::rs) (R.ty u::Ts)
def QlF:List Ty->Ty | [T]=>T | Ts=>ttup Ts
def Qqp (tmps:Array Value):ResultVar->Sem Value
 | .tmp t=>pure (tmps.getD t undef)
 | .cell a t=>do loadVar t (<-asAddr (tmps.getD a undef))
def QsN (fn:Func) (tmps:Array Value):results fn tmps=(do let vs <-fn.results.mapM (Qqp tmps);pure (if h:vs.size=1 then vs[0] else .tuple vs)):=rfl
def Qw8 {rs:List ResultVar} {Ts:List Ty} (h:Qh1 P Γ As rs Ts) (hst:St M w0 n Γ As a w):
  ∃vs,(rs.mapM (Qqp a.tmps)).run P w=.ok vs w/\QW Ts (free (hold M.m As) w) w vs:=by
 have hfct:∀{t:Nat} {T:Ty},Fct Γ (.tmp t) T->T.ok (free (hold M.m As) w) w (get a t):=λh=>h _ w a (λp hp _=>hst.Xo p hp)
 induction h with
 | nil=>exact⟨[],rfl,rfl,λj T u h=>by simp at h⟩
 | @tmp t T rs Ts h hs ih=>
  obtain⟨vs,hr,hc⟩:=ih;refine⟨get a t::vs,?_,by simp[hc.1],λj T' u hT hu=>?_⟩
  ·rw[mapM_cons];simp only[Qqp,Sem.run_bind,Sem.run_pure,Zj,hr];rfl
  ·cases j with
   | zero=>simp at hT hu;subst hT;subst hu;exact hfct h
   | succ j=>exact hc.2 j T' u (by simpa using hT) (by simpa using hu)
 | @cell p t q α R u bytes z Us rs Ts hz hp i hA hU hs ih=>
  obtain⟨vs,hr,hc⟩:=ih;have hq:get a p=q:=hfct hp;obtain⟨b,hqb,hrow⟩:=QjX (hst.own _ (Zo hA));obtain⟨v,hrun,hty⟩:=Qf3 hz (hrow.head hU);refine⟨v::vs,?_,by simp[hc.1],λj T' u' hT hu=>?_⟩
  ·rw[mapM_cons];have e:a.tmps.getD p undef=.pointer (some ⟨b,0,none⟩):=hq.trans hqb;have e2:(loadVar t ⟨b,0,none⟩).run P w=.ok v w:=by
    simpa[Instr.loadAt,Instr.sureAddr] using hrun
   have e3:(asAddr (a.tmps.getD p undef)).run P w=.ok ⟨b,0,none⟩ w:=by rw[e];rfl
   simp only[Qqp,Sem.run_bind,Sem.run_pure,Zj,e3,e2];rw[hr];rfl
  ·cases j with
   | zero=>simp at hT hu;subst hT;subst hu;exact hty
   | succ j=>exact hc.2 j T' u' (by simpa using hT) (by simpa using hu)
def Qj6 {fn:Func} {rs:List ResultVar} {Ts:List Ty} {E:List Atom} {N:Value->List Atom} {T:Value->Ty} (x:Value) (is:List Nat) (hpl:Qdd M0 E M) (hst:St M w0 n Γ As a w) (hrs:fn.results=rs.toArray) (h:Qh1 P Γ As rs Ts) (hd:Qcd is=true)
  (hN:is.filterMap (λi=>As[i]?)=N x) (hT:T x=QlF Ts):Ret P fn M0 E w0 N T .ret a w:=by
 obtain⟨vs,hrun,hc⟩:=Qw8 h hst;have hmem:∀A,A∈N x->A∈As:=by intro A hA;rw[<-hN] at hA;obtain⟨i,_,hi⟩:=Yj.1 hA;exact Zo hi
 have hnext:∀k,free (hold M.m As) w k->free (next M0 E (N x)) w k:=by
  rintro k ⟨h1,h2⟩;refine⟨h1,?_⟩;rintro (⟨hm,hne⟩ | ⟨A,hA,hk⟩)
  ·rcases (hpl.m k).1 hm with hm | hm
   ·exact h2 (.inl hm)
   ·exact hne hm
  ·exact h2 (.inr ⟨A,hmem A hA,hk⟩)
 have hmap:(results fn a.tmps).run P w=.ok (if h:vs.toArray.size=1 then vs.toArray[0] else .tuple vs.toArray) w:=by rw[QsN,hrs,mapM_toArray];simp only[Sem.run_bind,Sem.run_map,hrun,Zj];rfl
 refine⟨hst.defers.trans hpl.e,_,hmap,x,_,rfl,by rw[<-hpl.b];exact hst.grow,⟨?_,λA hA k hk=>?_,λA hA=>Atom.keep _ hnext (λ_ _=>rfl) (λ_ _=>rfl) (hst.own _ (hmem A hA))⟩,?_⟩
 ·rw[<-hN];have hap:=hst.apart;unfold Qda at hap ⊢;rw[pairwise_filterMap];refine (show is.Pairwise (·≠·) from QhJ hd).imp ?_;intro i j hij A hA B hB k hk hkB;rw[pairwise_iff_getElem] at hap;obtain⟨hi,rfl⟩:=Zc.1 hA;obtain⟨hj,rfl⟩:=Zc.1 hB;rcases Nat.lt_trichotomy i j with h | h | h
  ·exact hap i j hi hj h k hk hkB
  ·exact hij h
  ·exact hap j i hj hi h k hkB hk
 ·have:=hst.fresh A (hmem A hA) k hk;rw[hpl.b] at this;exact this
 ·rw[hT];have hl:=hc.1;by_cases h1:vs.toArray.size=1
  ·rw[dif_pos h1];have h1':vs.length=1:=by simpa using h1
   obtain⟨v,rfl⟩:=length_eq_one_iff.1 h1';obtain⟨T',rfl⟩:=length_eq_one_iff.1 (hl.symm.trans h1');exact T'.keep hnext (λ_ _=>rfl) (hc.2 0 T' v rfl rfl)
  ·rw[dif_neg h1];have h1':vs.length≠1:=by simpa using h1
   have e:QlF Ts=ttup Ts:=by
    match Ts,hl with
    | [],_=>rfl
    | [T'],hl=>exact (h1' (by simpa using hl)).elim
    | T1::T2::Ts,_=>rfl
   rw[e];exact⟨vs,rfl,hc.Xq hnext (λ_ _=>rfl)⟩
end
def QW.nil {F:Blk} {w:World}:QW [] F w []:=⟨rfl,λj T u h=>by simp at h⟩
def QW.cons {T:Ty} {Ts:List Ty} {F:Blk} {w:World} {u:Value} {us:List Value} (h:T.ok F w u) (k:QW Ts F w us):QW (T::Ts) F w (u::us):=
 ⟨by simp[k.1],λj T' u' hT hu=>by
  cases j with
  | zero=>simp at hT hu;subst hT;subst hu;exact h
  | succ j=>exact k.2 j T' u' (by simpa using hT) (by simpa using hu)⟩
def QW.inv {T:Ty} {Ts:List Ty} {F:Blk} {w:World} {us:List Value} (h:QW (T::Ts) F w us):∃u vs,us=u::vs/\T.ok F w u/\QW Ts F w vs:=by
 match us,h with
 | [],h=>exact absurd h.1 (by simp)
 | u::vs,h=>exact⟨u,vs,rfl,h.2 0 T u rfl rfl,by simpa using h.1,λj T' u' hT hu=>h.2 (j+1) T' u' (by simpa using hT) (by simpa using hu)⟩
def QW.inv0 {F:Blk} {w:World} {us:List Value} (h:QW [] F w us):us=[]:=ZU h.1
def One (T:Ty):Prop:=∀F w v,T.ok F w v->v.oneCell'=true
def QO {u:Value} (h:u.oneCell'=true):One (tv u):=λ_ _ v hv=>by have:v=u:=hv;rw[this];exact h
def QaH {α:Type} {R:Rep α} {xs:List α}:One (tsl R xs):=λ_ _ _ hv=>by obtain⟨ad,cap,e,_⟩:=hv;rw[e];rfl
def Q5:∀T,T∈([]:List Ty)->One T:=λT h=>by simp at h
def Qk {T:Ty} {Ts:List Ty} (h:One T) (hs:∀U,U∈Ts->One U):∀U,U∈T::Ts->One U:=λU hU=>by
 rcases Zm.1 hU with rfl | hU
 ·exact h
 ·exact hs U hU
def Qbs {u:Value}:Qfv (tv u):=λ_ _ _ _ h=>h
def QvK {Ts:List Ty} (h:∀T,T∈Ts->Qfv T):Qfv (tagg Ts):=λF F' w _ ⟨us,hv,hc⟩=>⟨us,hv,hc.1,λj T u hT hu=>h T (Zo hT) F F' w u (hc.2 j T u hT hu)⟩
def QgV:∀T,T∈([]:List Ty)->Qfv T:=λT h=>by simp at h
def QaK {T:Ty} {Ts:List Ty} (h:Qfv T) (hs:∀U,U∈Ts->Qfv U):∀U,U∈T::Ts->Qfv U:=λU hU=>by
 rcases Zm.1 hU with rfl | hU
 ·exact h
 ·exact hs U hU
def QiP {α:Type} {R:Rep α} {e:TypeId} {xs:List α} {v:Value} (h:∀x,∀T,T∈R.cs x->Qfv T):Qh0 (own R e xs v):=λF F' w ⟨us,ho,hc⟩=>⟨us,ho,hc.1,λj T u hT hu=>by obtain⟨x,_,hx⟩:=Yh.1 (Zo hT);exact h x T hx F F' w u (hc.2 j T u hT hu)⟩
section
variable {Γ:List (Nat×Ty)} {P:Program} {d:Option Tmp} {ty:TypeId} {pos:String} {af:Array Edge} {g:Option (Nat×Bool)} {x y:Operand} {T:Ty} {t e:TypeId} {α:Type} {R:Rep α} {bytes:Nat} {z:Value}
def FnOk.ro {f:FuncId} {Ts:List Ty} {xs:List α} {T:Value->Ty} {T':Ty} (h:FnOk P f Ts [] (λv=>[own R e xs v]) T) (hT:∀x F w v,(tsl R xs).ok F w x->(T x).ok F w v->T'.ok F w v):FnOk P f Ts [] (λ_=>[]) (λ_=>T'):=by
 intro M w vs hM hE hap hc;refine Calls.mono (h M w vs hM hE hap hc) ?_;rintro en w' ⟨x,v,he,hg,hN,hty⟩;have hfp:=hN.place _ (Zg.2 rfl);have hok:=hN.ok _ (Zg.2 rfl);have hsub:∀k,free (next M [] [own R e xs x]) w' k->free M w' k:=by rintro k ⟨h1,h2⟩;exact⟨h1,λhm=>h2 (.inl ⟨hm,λh=>(by rw[Qej] at h;exact h)⟩)⟩
 have hfp':∀k,(own R e xs x).fp k->free M w' k:=by
  intro k hk;refine⟨(hfp k hk).2,λhm=>?_⟩;have:=hM k hm;rcases (hfp k hk).1 with h | h
  ·rw[Qej] at h;exact h
  ·omega
 have hsl:(tsl R xs).ok (free M w') w' x:=QbR.own (x:=.const x) (Γ:=[]) (U:=[own R e xs x]) (R:=R) (e:=e) (xs:=xs) (v:=x) .k (by simp) _ _ w' ⟨#[],[]⟩ hsub (λA hA=>by simp at hA;subst hA;exact⟨hok,hfp'⟩) (λp hp=>by simp at hp);refine⟨undef,v,he,hg,Qfn,?_⟩;simp only[Qj5];exact hT x _ _ _ hsl ((T x).keep hsub (λ_ _=>rfl) hty)
def Qcr {xs:List α}:∀x F w v,(tsl R xs).ok F w x->(tv x).ok F w v->(tsl R xs).ok F w v:=λx F w v h hv=>by have:v=x:=hv;rw[this];exact h
inductive Qmq (Γ:List (Nat×Ty)) (pl:Array (Nat×Nat)):List (Nat×Operand)->List Ty->List Ty->Prop where
 | nil (Ts:List Ty):Qmq Γ pl [] Ts Ts
 | cons {i off:Nat} {α:Type} {R:Rep α} {u:α} {x:Operand} {ps:List (Nat×Operand)} {Ts Ts':List Ty} (hp:pl[i]?=some (off,R.n)) (h:Fct Γ x (R.ty u)) (hl:off+R.n<=Ts.length)
   (hs:Qmq Γ pl ps (splice Ts off (R.cs u)) Ts'):Qmq Γ pl ((i,x)::ps) Ts Ts'
def QrS {pl:Array (Nat×Nat)} {F:Blk} {w:World} {A:Act} {ps:List (Nat×Operand)} {Ts Ts':List Ty} (h:Qmq Γ pl ps Ts Ts') (he:∀p∈Γ,(∃q∈ps,Operand.tmp p.1=q.2)->p.2.ok F w (get A p.1)):
  ∀cs:Array Value,QW Ts F w cs.toList->∃cs',Instr.fill (pl[·]?) cs (ps.map λp=>(p.1,A.eval p.2))=some cs'/\QW Ts' F w cs'.toList:=by
 induction h with
 | nil=>intro cs hc;exact⟨cs,rfl,hc⟩
 | @cons i off α R u x ps Ts Ts' hp hx hl hs ih=>
  intro cs hc;have hv:=hx F w A (λp hp hpx=>he p hp ⟨(i,x),by simp,hpx⟩);obtain⟨hcv,_,hn⟩:=Qcn hv;have hcl:cs.size=Ts.length:=by simpa using hc.1
  have hvl:(A.eval x).cells.toList.length=R.n:=by simpa using hn
  have hfs:=QpB (A.eval x).cells.toList 0 off cs (by rw[hvl];omega);simp only[Nat.add_zero] at hfs;simp only[Yf,Instr.fill,hp];rw[Zb (by simp[hn];omega)];refine ih (λp hp ⟨q,hq,e⟩=>he p hp ⟨q,by simp[hq],e⟩) _ ?_;rw[<-Array.foldl_toList,Array.toList_zipIdx,hfs];exact hc.splice hcv (by rw[R.len];exact hl)
def QaD {fs:Array Field} {pl:Array (Nat×Nat)} {ps:Array (Nat×Operand)} {Ts0 Ts':List Ty} (hu:P.underlying t=some (.struct fs)) (hpl:∀w,((fs.mapM λf=>do pure (f.offset,<-sizeOf f.type):Sem (Array (Nat×Nat)))).run P w=.ok pl w)
  (hz:(P.info? t).bind (·.zero)=some z) (h0:∀F w,QW Ts0 F w z.cells.toList) (hps:Qmq Γ pl ps.toList Ts0 Ts'):OpJ P ⟨d,.build t ps,ty,pos,af,g⟩ Γ [] [] (λ_=>[]) (λ_=>tagg Ts'):=
 QaQ λF w A he=>by
  obtain⟨cs',hf,hc⟩:=QrS (A:=A) (F:=F) (w:=w) hps (λp hp ⟨q,hq,e⟩=>he p hp (by simp only[Op.operands,mem_toArray,ZM];exact⟨q,hq,e.symm⟩)) z.cells (h0 F w);obtain⟨ti,hti,hzz⟩:∃ti,P.info? t=some ti/\ti.zero=some z:=by
   cases h:P.info? t with
   | none=>simp[h] at hz
   | some ti=>exact⟨ti,rfl,by simpa[h] using hz⟩
  refine⟨.agg cs',?_,cs'.toList,by simp,hc⟩;have hzv:(zeroValue t).run P w=.ok z w:=by simp[zeroValue,typeInfo,hti,hzz]
  have hf':Instr.fill (λx=>pl[x]?) z.cells (ps.map λp=>(p.1,A.eval p.2)).toList=some cs':=by simpa using hf
  simp only[execOp,Instr.build,Sem.run_bind,hzv,Zj,run_underlying hu,hpl w,hf',Sem.run_pure]
def QrT {n:Nat} {ps:Array (Nat×Operand)} {us:List α} (hu:P.underlying t=some (.array n e)) (hze:TOk P e R bytes z) {zt:Value} (hz:(P.info? t).bind (·.zero)=some zt) (hzn:zt.cells.size=us.length * R.n) (hps:QhZ Γ R 0 ps.toList us):
  OpJ P ⟨d,.build t ps,ty,pos,af,g⟩ Γ [] [] (λ_=>[]) (λ_=>tagg (us.flatMap R.cs)):=
 QaQ λF w A he=>by
  obtain⟨ti,hti,_,hs,_⟩:=hze.info;obtain⟨vs,hc,_,cs',hf,hcs⟩:=Qn7 (F:=F) (w:=w) (A:=A) hps (λp hp ⟨q,hq,e⟩=>he p hp (by simp only[Op.operands,mem_toArray,ZM];exact⟨q,hq,e.symm⟩)) zt.cells (by rw[hzn];simp);have hvl:vs.length=us.length * R.n:=by rw[hc.1,QaF]
  have hcs2:cs'.toList=vs:=by rw[hcs];simp[splice,hvl,hzn]
  obtain⟨tj,htj,hzz⟩:∃ti,P.info? t=some ti/\ti.zero=some zt:=by
   cases h:P.info? t with
   | none=>simp[h] at hz
   | some ti=>exact⟨ti,rfl,by simpa[h] using hz⟩
  refine⟨.agg cs',?_,cs'.toList,by simp,by rw[hcs2];exact hc⟩;have hzv:(zeroValue t).run P w=.ok zt w:=by simp[zeroValue,typeInfo,htj,hzz]
  have hsz:(sizeOf e).run P w=.ok R.n w:=by simp[sizeOf,typeInfo,hti,hs]
  have hf':Instr.fill (λi=>some (i * R.n,R.n)) zt.cells (ps.map λp=>(p.1,A.eval p.2)).toList=some cs':=by simpa using hf
  simp only[execOp,Instr.build,Sem.run_bind,hzv,Zj,run_underlying hu,hsz,hf',Sem.run_pure]
def QnJ {t:TypeId} (n:Nat) (ht:P.underlying t=some .bool) (a b:Bool) (w:World):(Op.equalIn (n+1) t (.bool a) (.bool b)).run P w=.ok (a==b) w:=by simp[Op.equalIn,run_underlying ht]
def Qo8 {t:TypeId} (ht:P.underlying t=some .bool) (a b:Bool) (w:World):(Op.equal t (.bool a) (.bool b)).run P w=.ok (a==b) w:=QnJ 9999 ht a b w
def Qw9 {a b:Bool} {t2:TypeId} (ht:P.underlying t=some .bool) (hx:Fct Γ x (tv (.bool a))) (hy:Fct Γ y (tv (.bool b))):OpJ P ⟨d,.binOp .neq t x y t2,ty,pos,af,g⟩ Γ [] [] (λ_=>[]) (λ_=>tv (.bool (a !=b))):=QdT hx hy λw=>by simp[eqGuard,binOp,Qo8 ht,bne]
def Qn8 {t:TypeId} (m:Nat) (ht:P.underlying t=some (.slice e)) (ad:Option Addr) (n c:Nat) (w:World):(Op.equalIn (m+1) t (.slice ad n c) (.slice none 0 0)).run P w=.ok ad.isNone w:=by cases ad<;>simp[Op.equalIn,run_underlying ht]
def Qqa {t:TypeId} (ht:P.underlying t=some (.slice e)) (ad:Option Addr) (n c:Nat) (w:World):(Op.equal t (.slice ad n c) (.slice none 0 0)).run P w=.ok ad.isNone w:=Qn8 9999 ht ad n c w
end
def QrU {α:Type} (R:Rep α):∀(xs:List α) (i:Nat) (x:α),i<xs.length->(xs.set i x).flatMap R.cs=splice (xs.flatMap R.cs) (i * R.n) (R.cs x):=by
 intro xs
 induction xs with
 | nil=>intro i x h;simp at h
 | cons y xs ih=>
  intro i x h
  cases i with
  | zero=>simp only[set_cons_zero,flatMap_cons,splice,Nat.zero_mul,Nat.zero_add,take_zero,Ya];rw[R.len,<-R.len y,drop_left]
  | succ i=>
   simp only[set_cons_succ,flatMap_cons,splice];rw[ih i x (by simpa using h)];have e:(i+1) * R.n=(R.cs y).length+i * R.n:=by rw[R.len,Nat.add_mul];omega
   rw[e,take_length_add_append,Nat.add_assoc,drop_length_add_append];simp[splice]
section
variable {Γ:List (Nat×Ty)} {P:Program} {d:Option Tmp} {ty:TypeId} {pos:String} {af:Array Edge} {g:Option (Nat×Bool)} {x y:Operand} {T:Ty} {t e:TypeId} {α:Type} {R:Rep α} {bytes:Nat} {z:Value}
def Qn9 {β:Type} {R2:Rep β} {xs:List α} {v:Value} {i off:Nat} {u:α} {u2:β} (hz:TOk P t R2 bytes z)
  (hp:∀F w A ad n c,Qi7 Γ (⟨d,.store t x y,ty,pos,af,g⟩:Oper).op.operands F w A->v=.slice (some ⟨ad,0,none⟩) n c->A.eval x=.pointer (some ⟨ad,i * R.n+off,none⟩))
  (hx:Fct Γ y (R2.ty u2)) (hi:i<xs.length) (hoff:off+R2.n<=R.n) (hu:R.cs u=splice (R.cs xs[i]) off (R2.cs u2)):
  OpJ P ⟨d,.store t x y,ty,pos,af,g⟩ Γ [] [own R e xs v] (λ_=>[own R e (xs.set i u) v]) (λ_=>tany):=by
 intro M w A hM _ hE _ _ he;obtain⟨ho,hfp⟩:=hE _ (Zg.2 rfl);have hgiv:=QdA hE;have hv:=hx.use (by simp[Op.operands]) he;rcases Qa8 ho with⟨_,hn⟩ | ⟨b,cap,cur,hvv,hb,h1,h2,h3,h4⟩
 ·rw[hn] at hi;simp at hi
 ·have hpv:=hp _ w A b _ _ he hvv;have hin:i * R.n+R.n<=xs.length * R.n:=by
   have:(i+1) * R.n<=xs.length * R.n:=Nat.mul_le_mul_right _ hi;rw[Nat.add_mul] at this;omega
  have hcap:xs.length * R.n<=cap * R.n:=Nat.mul_le_mul_right _ h1;have hrs:=Qk0 (off:=i * R.n+off) hz hv hb (by omega);have hr:(execOp A.eval (⟨d,.store t x y,ty,pos,af,g⟩:Oper)).run P w=.ok .skip (w.setRow b (splice cur.toList (i * R.n+off) (A.eval y).cells.toList).toArray):=by simp only[execOp,hpv,Sem.run_bind,hrs,Zj,Sem.run_pure]
  simp only[Does,hr];have heat:∀k,Qay [own R e xs v] k↔k=b:=by intro k;rw[Qak,hvv,Qbz]
  refine⟨undef,Qfo ((heat b).2 rfl),QbQ (λk hk=>?_) ?_,trivial⟩
  ·rw[hvv] at hk;rw[Qbz.1 hk];exact⟨.inl ((heat b).2 rfl),by simpa using (Array.getElem?_eq_some_iff.1 hb).1⟩
  ·obtain⟨hcv,_,hnn⟩:=Qcn hv;have hvl:(A.eval y).cells.toList.length=R2.n:=by simpa using hnn
   have hl:(xs.set i u).length=xs.length:=by simp
   have hvv':v=.slice (some ⟨b,0,none⟩) (xs.set i u).length cap:=by rw[hl];exact hvv
   rw[hvv'];refine QhK (setRow_heap w b cur _ e _ hb) (by rw[hl];exact h1) h2 (by simp only[size_toArray];rw[Qf4 _ _ _ (by simp;omega)];simpa using h3) ?_;rw[hl];have e1:(splice cur.toList (i * R.n+off) (A.eval y).cells.toList).take (xs.length * R.n)=splice (cur.toList.take (xs.length * R.n)) (i * R.n+off) (A.eval y).cells.toList:=by
    apply ext_getElem?;intro j;rw[getElem?_take,Qb3 _ _ _ _ (by simp;omega),Qb3 _ _ _ _ (by simp;omega),getElem?_take];by_cases hj:j<xs.length * R.n
    ·rw[Ze hj,Ze hj]
    ·rw[Zb hj,Zb hj,Zb (by omega)]
   simp only;rw[e1];have e2:(xs.set i u).flatMap R.cs=splice (xs.flatMap R.cs) (i * R.n+off) (R2.cs u2):=by
    rw[QrU R xs i u hi,hu];have hfl:(xs.flatMap R.cs).length=xs.length * R.n:=QaF R xs;have hul:(R2.cs u2).length=R2.n:=R2.len u2;have hil:(R.cs xs[i]).length=R.n:=R.len _;have hsl:(splice (R.cs xs[i]) off (R2.cs u2)).length=R.n:=by rw[Qf4 _ _ _ (by omega),hil]
    apply ext_getElem?;intro j;rw[Qb3 _ _ _ _ (by rw[hsl];omega),Qb3 (xs.flatMap R.cs) (R2.cs u2) (i * R.n+off) j (by omega),hsl,hul];by_cases hj:i * R.n<=j/\j<i * R.n+R.n
    ·rw[Ze hj,Qb3 _ _ _ _ (by omega),hul];by_cases hj2:off<=j - i * R.n/\j - i * R.n<off+R2.n
     ·rw[Ze hj2,Ze (by omega)];congr 1;omega
     ·rw[Zb hj2,Zb (by omega)];have:j=i * R.n+(j - i * R.n):=by omega
      rw[this,Qek R xs i _ xs[i] (Zf hi) (by omega)];congr 1;omega
    ·rw[Zb hj,Zb (by omega)]
   rw[e2];refine (h4.splice hcv (by rw[QaF,R2.len];omega)).Xq ?_ ?_
   ·intro k hk;rw[hvv] at hgiv heat;refine QcF (by simp) hgiv (λB hB j hj=>?_) hk;obtain rfl:=Zg.1 hB;rw[Qbz] at hj;exact .inl ((heat j).2 hj)
   ·rintro k ⟨g1,g2⟩;exact setRow_other w b k _ (λe=>g2 (hgiv k ((heat k).2 e)))
def Qmr {xs ys:List α} {v:Value} {i:Int} {u:α} (hz:TOk P t R bytes z) (hp:Fct Γ x (tv (QaX v (i.toNat * R.n)))) (hx:Fct Γ y (R.ty u)) (h:setAt xs i u=some ys):
  OpJ P ⟨d,.store t x y,ty,pos,af,g⟩ Γ [] [own R e xs v] (λ_=>[own R e ys v]) (λ_=>tany):=by
 unfold setAt at h;split at h
 ·rename_i hc;obtain rfl:=Zz h;have hi:i.toNat<xs.length:=by omega
  refine Qn9 (off:=0) hz (λF w A ad n c he hv=>?_) hx hi (by omega) ?_
  ·rw[hp.val (by simp[Op.operands]) he,hv];simp[QaX,Qbb]
  ·simp[splice,R.len]
 ·cases h
def QaT {β:Type} {R2:Rep β} {xs ys:List α} {v:Value} {i:Int} {off:Nat} {u0 u:α} {u2:β} (hz:TOk P t R2 bytes z) (hp:Fct Γ x (tv (padd (QaX v (i.toNat * R.n)) off))) (hx:Fct Γ y (R2.ty u2)) (h0:idx xs i=some u0) (h:setAt xs i u=some ys)
  (hoff:off+R2.n<=R.n) (hu:R.cs u=splice (R.cs u0) off (R2.cs u2)):
  OpJ P ⟨d,.store t x y,ty,pos,af,g⟩ Γ [] [own R e xs v] (λ_=>[own R e ys v]) (λ_=>tany):=by
 unfold setAt at h;split at h
 ·rename_i hc;obtain rfl:=Zz h;have hi:i.toNat<xs.length:=by omega
  have e0:xs[i.toNat]=u0:=by unfold idx at h0;rw[Ze hc.1,Zf hi] at h0;exact Zz h0
  refine Qn9 (off:=off) hz (λF w A ad n c he hv=>?_) hx hi hoff (by rw[e0];exact hu);rw[hp.val (by simp[Op.operands]) he,hv];simp[QaX,padd,Qbb]
 ·cases h
def Qas {s:TypeId} {f off m:Nat} {v:Value} {xs:List α} (hf:QI P s f off) (hp:Fct Γ x (tv (QaX v m))) (hne:xs≠[]):OpJ P ⟨d,.fieldAddr s x f,ty,pos,af,g⟩ Γ [own R e xs v] [] (λ_=>[]) (λ_=>tv (padd (QaX v m) off)):=
 Qcq λM w a hU he=>by
  have hv:=hp.val (by simp[Op.operands]) he;rcases Qa8 (hU _ (Zg.2 rfl)) with⟨_,hn⟩ | ⟨b,cap,cur,hvv,_⟩
  ·exact (hne hn).elim
  ·subst hvv;exact⟨_,by simp only[execOp,hv,QaX,Qbb,Sem.run_bind,QkZ hf,Zj,Sem.run_pure,padd],rfl⟩
def QiQ {xs:List α} {v:Value} {i:Int} {u:α} (hz:TOk P t R bytes z) (hp:Fct Γ x (tv (QaX v (i.toNat * R.n)))) (h:idx xs i=some u):OpJ P ⟨d,.load t x,ty,pos,af,g⟩ Γ [own R e xs v] [] (λ_=>[]) (λ_=>R.ty u):=
 Qcq λM w a hU he=>by
  have hv:=hp.val (by simp[Op.operands]) he;unfold idx at h;split at h
  ·rcases Qa8 (hU _ (Zg.2 rfl)) with⟨_,hn⟩ | ⟨b,cap,cur,hvv,hb,h1,h2,h3,h4⟩
   ·rw[hn] at h;simp at h
   ·subst hvv;have hi:i.toNat<xs.length:=(Zc.1 h).1;have hrow:Row (xs.flatMap R.cs) (free M w) w b 0:=λj T hT=>by
     have hj:j<(cur.toList.take (xs.length * R.n)).length:=by rw[h4.1];exact (Zc.1 hT).1
     refine⟨(cur.toList.take (xs.length * R.n))[j],?_,h4.2 j T _ hT (Zf hj)⟩;have hj2:j<cur.size:=by simp at hj;omega
     simp[World.cell?,hb,hj2]
    obtain⟨v',hrun,hty⟩:=Qf3 hz (hrow.elem h);refine⟨v',?_,hty⟩;simp only[execOp,hv,QaX,Qbb,Sem.run_bind,hrun,Zj,Sem.run_pure]
  ·cases h
def Qar {xs:List α} {v:Value} {e':TypeId} {i:Int} {k:IntKind} {u:α} (ht:P.underlying t=some (.slice e)) (hz:TOk P e R bytes z) (hx:Fct Γ x (tv v)) (hi:Fct Γ y (tv (.int k i))) (h:idx xs i=some u):
  OpJ P ⟨d,.indexAddr t x y,ty,pos,af,g⟩ Γ [own R e' xs v] [] (λ_=>[]) (λ_=>tv (QaX v (i.toNat * R.n))):=by
 unfold idx at h;split at h
 ·have:=(Zc.1 h).1;exact QpA ht hz hx hi (by assumption) (by omega)
 ·cases h
def Qoa {xs ys:List α} {v:Value} {e':TypeId} {i:Int} {k:IntKind} {u:α} (ht:P.underlying t=some (.slice e)) (hz:TOk P e R bytes z) (hx:Fct Γ x (tv v)) (hi:Fct Γ y (tv (.int k i))) (h:setAt xs i u=some ys):
  OpJ P ⟨d,.indexAddr t x y,ty,pos,af,g⟩ Γ [own R e' xs v] [] (λ_=>[]) (λ_=>tv (QaX v (i.toNat * R.n))):=by
 unfold setAt at h;split at h
 ·rename_i hc;exact QpA ht hz hx hi hc.1 hc.2
 ·cases h
end
def Qag {P:Program} {a:Act} {w:World} {σ ρ:Type} {c:Code} {Q:Exit->Act->World->Prop} (body:σ->Option (σ⊕ρ)) (I:σ->Act->World->Prop) (out:ρ) (s0:σ) (h:Qz body s0=some out) (h0:I s0 a w)
  (round:∀s o a w (K:Act->World->Prop),I s a w->body s=some o->(∀r,o=.inr r->r=out)->(∀s' a w,o=.inl s'->I s' a w->K a w)->c.wp P (Exit.then K Q) a w):(Code.loop c).wp P Q a w:=
 QrR body I out s0 h h0 λs o a w hI hb ho=>round s o a w _ hI hb ho (λs' _ _ h1 h2=>⟨s',h1,h2⟩)
section
variable {Γ:List (Nat×Ty)} {P:Program} {d:Option Tmp} {ty:TypeId} {pos:String} {af:Array Edge} {g:Option (Nat×Bool)}
def Qq {fid:FuncId} {Ts:List Ty} {xs:List Operand} {ts:Array TypeId} {E:List Atom} {N:Value->List Atom} {T:Value->Ty} (hc:QB P fid) (hfn:FnOk P fid Ts E N T) (ha:Args Γ [] xs Ts):
  OpJ P ⟨d,.call { callee:=.value (.func fid),args:=xs.toArray,argTypes:=ts },ty,pos,af,g⟩ Γ [] E N T:=
 Qw7 (caps:=[]) (Tc:=[]) hc (by simpa using hfn) .fn ha
def Qjj {fid:FuncId} {Ts:List Ty} {xs:List Operand} {ts:Array TypeId} {E:List Atom} {N:Value->List Atom} {T:Value->Ty} (U:List Atom) (hc:QB P fid) (hfn:FnOk P fid Ts E N T) (ha:Args Γ U xs Ts) (hT:∀x,Qfv (T x)) (hN:∀x,∀A∈N x,Qh0 A):
  OpJ P ⟨d,.call { callee:=.value (.func fid),args:=xs.toArray,argTypes:=ts },ty,pos,af,g⟩ Γ U E N T:=
 QvI (caps:=[]) (Tc:=[]) U hc (by simpa using hfn) (.of .fn) ha hT hN
def QqO {x:Value}:∀A∈(λ_=>[]:Value->List Atom) x,Qh0 A:=λ_ h=>(by cases h)
def flatN1 {A:Atom} (h:Qh0 A):∀B∈[A],Qh0 B:=λB hB=>by obtain rfl:=Zg.1 hB;exact h
end
def QI.mk {P:Program} {s f off:Nat} {fs:Array Field} {fd:Field} {α:Type} {R:Rep α} {b:Nat} {z:Value} (hu:P.underlying s=some (.struct fs)) (hf:fs[f]?=some fd) (ho:fd.offset=off) (hz:TOk P fd.type R b z) (hn:R.n≠0):QI P s f off:=
 have⟨i,hi,_,hs,_⟩:=hz.info
 ⟨fs,fd,i,hu,hf,ho,hi,by rw[hs];exact hn⟩
def nz_ne {b:Int} {u:Unit} (h:nz b=some u):b≠0:=by unfold nz at h;split at h<;>first | assumption | cases h
def rm_ok {n:Nat} {u:Unit} (h:rm n=some u):rm n=some ():=h
def QfD {a b:Bool} (h:a=true) (k:b=true):(a&&b)=true:=by rw[h,k];rfl
def beqF {c:Bool} (h:c=false):(c==false)=true:=by rw[h];rfl
def beqT {c:Bool} (h:c=true):(c==true)=true:=by rw[h];rfl
def jn {α β:Type} (k:α) (f:α->β):β:=f k
def Qgt {α β:Type} {k:α} {f:α->Option β} {r:β} (h:jn k f=some r):∃k',k'=k/\f k'=some r:=⟨k,rfl,h⟩
def Qcc (f:FuncId) (Tc:List Ty):Ty:=⟨λF w v=>∃caps,(tclo f caps Tc).ok F w v,λhF hh ⟨caps,h⟩=>⟨caps,(tclo f caps Tc).keep hF hh h⟩⟩
inductive Caps (Γ:List (Nat×Ty)):List Operand->List Ty->Prop where
 | nil:Caps Γ [] []
 | cons {x:Operand} {T:Ty} {xs:List Operand} {Ts:List Ty} (h:Fct Γ x T) (hs:Caps Γ xs Ts):Caps Γ (x::xs) (T::Ts)
def Caps.cells {Γ:List (Nat×Ty)} {xs:List Operand} {Ts:List Ty} {F:Blk} {w:World} {a:Act} (h:Caps Γ xs Ts) (he:∀p∈Γ,Operand.tmp p.1∈xs->p.2.ok F w (get a p.1)):QW Ts F w (xs.map a.eval):=by
 induction h with
 | nil=>exact .nil
 | @cons x T xs Ts h hs ih=>exact .cons (h F w a (λp hp e=>he p hp (by rw[e];simp))) (ih (λp hp e=>he p hp (by simp[e])))
section
variable {Γ:List (Nat×Ty)} {P:Program} {d:Option Tmp} {ty:TypeId} {pos:String} {af:Array Edge} {g:Option (Nat×Bool)} {x y:Operand} {T:Ty} {t e:TypeId} {α:Type} {R:Rep α} {bytes:Nat} {z:Value}
def Qjk {fid:FuncId} {xs:List Operand} {Tc:List Ty} (h:Caps Γ xs Tc):OpJ P ⟨d,.makeFunc (.func fid) #[] xs.toArray,ty,pos,af,g⟩ Γ [] [] (λ_=>[]) (λ_=>Qcc fid Tc):=QaQ λF w a he=>⟨.func (.func fid) #[] (xs.map a.eval).toArray,by simp[execOp,Instr.makeFunc],xs.map a.eval,rfl,h.cells (λp hp hx=>he p hp (by simp[Op.operands,hx]))⟩
def tnil {α:Type} (xs:List α) (neg:Bool):Ty:=⟨λ_ _ v=>∃b,v=.bool b/\((b !=neg)=true->xs=[]),λ_ _ h=>h⟩
def op_eqNil' {xs:List α} {t2:TypeId} (ht:P.underlying t=some (.slice e)) (hx:Fct Γ x (tsl R xs)):OpJ P ⟨d,.binOp .eql t x (.const (.slice none 0 0)) t2,ty,pos,af,g⟩ Γ [] [] (λ_=>[]) (λ_=>tnil xs false):=
 QaQ λF w a he=>by
  obtain⟨ad,cap,hv,_,hr⟩:=hx.use (by simp[Op.operands]) he;refine⟨.bool ad.isNone,?_,_,rfl,λhb=>?_⟩
  ·simp[execOp,hv,Qiu,eqGuard,binOp,Qqa ht]
  ·cases hxs:xs with
   | nil=>rfl
   | cons u us=>obtain⟨b,off,ha,_⟩:=hr (by rw[hxs];simp);rw[ha] at hb;simp at hb
def Qfp {M:Fr} {w0:World} {n:Nat} {As:List Atom} {a:Act} {w:World} {s:Nat} {xs:List α} {c1 c2:Code} {Q:Exit->Act->World->Prop} (i:Nat) (hst:St M w0 n Γ As a w) (hi:Γ[i]?=some (s,tnil xs false)) (ht:xs=[]->c1.wp P Q a w) (hf:c2.wp P Q a w):(Code.cond (.tmp s) c1 c2).wp P Q a w:=by
 obtain⟨b,hv,hb⟩:∃b,a.eval (.tmp s)=.bool b/\((b !=false)=true->xs=[]):=hst.Xo (s,tnil xs false) (Zo hi)
 cases b with
 | true=>exact wp_cond_true hv (ht (hb rfl))
 | false=>exact wp_cond_false hv hf
end
def Qav {α:Type} {xs:List α} {i:Int} {u:α} (h:idx xs i=some u):xs≠[]:=by
 unfold idx at h;split at h
 ·intro hn;rw[hn] at h;simp at h
 ·cases h
def tvs (x:Value):Ty:=⟨λ_ _ v=>v=x/\x.oneCell'=true,λ_ _ h=>h⟩
@[reducible] def rVal : Rep Value := ⟨λx => [tvs x],1,false,λ_ => rfl,λx T h F w v hv => by simp at h; subst h; obtain ⟨h1,h2⟩ := hv; rw [h1]; exact h2,λ_ => rfl⟩
def nilV:Value:=.slice none 0 0
def QgW {x:Value}:Qfv (tvs x):=λ_ _ _ _ h=>h
def usAt (us:List Value) (i:Int):Value:=us.getD i.toNat undef
def rows {α:Type} (R:Rep α) (e:TypeId) (xss:List (List α)) (us:List Value):Atom:=
 ⟨λk=>∃u∈us,u.ownBlock=some k,
  λF w=>us.length=xss.length/\(∀(i:Nat) xs u,xss[i]?=some xs->us[i]?=some u->(own R e xs u).ok F w)/\us.Pairwise (λ(u v:Value)=>∀k:Nat,u.ownBlock=some k->¬v.ownBlock=some k),
  λhF hh hf ⟨h1,h2,h3⟩=>⟨h1,λi xs u hx hu=>Atom.keep _ hF hh (λk hk=>hf k ⟨u,Zo hu,hk⟩) (h2 i xs u hx hu),h3⟩⟩
structure Qm6 (A A' B B':Atom):Prop where
 ok:∀F w,B.ok F w->A.ok F w
 sub:∀k,A.fp k->B.fp k
 fpA:∀k,A'.fp k↔A.fp k
 fpB:∀k,B'.fp k↔B.fp k
 back:∀{F F':Blk} {w w':World},B.ok F w->(∀k,F k->F' k)->(∀k,F k->w'.heap[k]?=w.heap[k]?)->(∀k,B.fp k->¬A.fp k->w'.heap[k]?=w.heap[k]?)->A'.ok F' w'->B'.ok F' w'
section
variable {P:Program} {o:Oper} {Γ:List (Nat×Ty)} {U:List Atom} {T:Value->Ty}
def OpJ.focus {A A' B B':Atom} (hf:Qm6 A A' B B') (h:OpJ P o Γ U [A] (λ_=>[A']) T):OpJ P o Γ U [B] (λ_=>[B']) T:=by
 intro M w a hM hU hE _ hUE he;obtain⟨hB,hBM⟩:=hE B (Zg.2 rfl);have hA:QgK M [A] w:=λC hC=>by obtain rfl:=Zg.1 hC;exact⟨hf.ok _ _ hB,λk hk=>hBM k (hf.sub k hk)⟩
 refine (h M w a hM hU hA (pairwise_singleton _ _) (λC hC D hD k hk hkD=>?_) he).mono ?_
 ·obtain rfl:=Zg.1 hD;exact hUE C hC B (Zg.2 rfl) k hk (hf.sub k hkD)
 ·rintro v w' ⟨x,hs,hm,ht⟩;have hfree:∀k,free (next M [A] [A']) w' k->free (next M [B] [B']) w' k:=by
   rintro k ⟨h1,h2⟩;refine⟨h1,?_⟩;have hnM:M k->False:=λhk=>by
    by_cases hA:A.fp k
    ·exact h2 (.inr (Qak.2 ((hf.fpA k).2 hA)))
    ·exact h2 (.inl ⟨hk,λh=>hA (Qak.1 h)⟩)
   rintro (⟨hk,_⟩ | hk)
   ·exact hnM hk
   ·exact hnM (hBM k ((hf.fpB k).1 (Qak.1 hk)))
  refine⟨x,hs.mono (λk hk=>Qak.2 (hf.sub k (Qak.1 hk))),QbQ (λk hk=>?_) ?_,(T x).keep hfree (λ_ _=>rfl) ht⟩
  ·have hkB:=(hf.fpB k).1 hk;exact⟨.inl (Qak.2 hkB),ZG (hM k (hBM k hkB)) hs.size⟩
  ·have hA':=hm.ok A' (Zg.2 rfl);refine hf.back hB (λk hk=>?_) (λk hk=>hs.same k hk.1 (λh=>?_)) (λk hk hn=>hs.same k (hM k (hBM k hk)) (λh=>hn (Qak.1 h))) (A'.keep hfree (λ_ _=>rfl) (λ_ _=>rfl) hA')
   ·refine QcF hs.size (λj hj=>hBM j (Qak.1 hj)) (λC hC j hj=>?_) hk;obtain rfl:=Zg.1 hC;exact .inl (Qak.2 ((hf.fpB j).1 hj))
   ·exact hk.2 (hBM k (hf.sub k (Qak.1 h)))
def OpJ.usePart {A B:Atom} {E:List Atom} {N:Value->List Atom} (hok:∀F w,B.ok F w->A.ok F w) (hsub:∀k,A.fp k->B.fp k) (h:OpJ P o Γ (A::U) E N T):OpJ P o Γ (B::U) E N T:=by
 intro M w a hM hU hE hap hUE he;obtain⟨hB,hBM⟩:=hU B (Zl ..);refine h M w a hM (λC hC=>?_) hE hap (λC hC D hD k hk hkD=>?_) he
 ·rcases Zm.1 hC with rfl | hC
  ·exact⟨hok _ _ hB,λk hk=>hBM k (hsub k hk)⟩
  ·exact hU C (Zy _ hC)
 ·rcases Zm.1 hC with rfl | hC
  ·exact hUE B (Zl ..) D hD k (hsub k hk) hkD
  ·exact hUE C (Zy _ hC) D hD k hk hkD
def OpJ.Xp {U':List Atom} {E:List Atom} {N:Value->List Atom} (hs:∀A∈U,A∈U') (h:OpJ P o Γ U E N T):OpJ P o Γ U' E N T:=λM w a hM hU hE hap hUE he=>h M w a hM (λA hA=>hU A (hs A hA)) hE hap (λA hA=>hUE A (hs A hA)) he
def OpJ.say {Q:Prop} {A:Atom} {E:List Atom} {N:Value->List Atom} (hA:A∈U) (hq:∀F w,A.ok F w->Q) (h:Q->OpJ P o Γ U E N T):OpJ P o Γ U E N T:=λM w a hM hU hE hap hUE he=>h (hq _ _ (hU A hA).1) M w a hM hU hE hap hUE he
end
section
variable {α:Type} {R:Rep α} {e:TypeId} {xss:List (List α)} {us:List Value}
def idx_lt' {β:Type} {xs:List β} {i:Int} {x:β} (h:idx xs i=some x):0<=i/\i.toNat<xs.length/\xs[i.toNat]?=some x:=by
 unfold idx at h;split at h
 ·exact⟨by assumption,(Zc.1 h).1,h⟩
 ·cases h
def QvL {i:Int} {n:Nat} (hl:us.length=n) (hi:i.toNat<n):us[i.toNat]?=some (usAt us i):=by unfold usAt;rw[Zw,Zf (by omega)];rfl
def Qt1 {i:Int} {xs:List α} (h:idx xss i=some xs):∀F w,(rows R e xss us).ok F w->(own R e xs (usAt us i)).ok F w:=by intro F w ⟨h1,h2,_⟩;obtain⟨_,h4,h5⟩:=idx_lt' h;exact h2 _ _ _ h5 (QvL h1 h4)
def QvM {i:Int} {xs:List α}:∀k,(own R e xs (usAt us i)).fp k->(rows R e xss us).fp k:=by
 intro k hk;have hk':(usAt us i).ownBlock=some k:=hk;refine⟨usAt us i,?_,hk'⟩;unfold usAt at hk' ⊢;rw[Zw] at hk' ⊢
 cases hu:us[i.toNat]? with
 | none=>rw[hu] at hk';simp[undef,Value.ownBlock] at hk'
 | some u=>exact Zo hu
end
section
variable {Γ:List (Nat×Ty)} {P:Program} {d:Option Tmp} {ty:TypeId} {pos:String} {af:Array Edge} {g:Option (Nat×Bool)} {x y:Operand} {T:Ty} {t e e1 e2:TypeId} {α:Type} {R:Rep α} {bytes:Nat} {z:Value} {xss:List (List α)} {us:List Value} {v:Value}
def Qbt {U E:List Atom} {N:Value->List Atom} {o:Oper} {T T':Value->Ty} (h:OpJ P o Γ U E N T) (hw:∀x F w v,(T x).ok F w v->(T' x).ok F w v):OpJ P o Γ U E N T':=λM w a hM hU hE hap hUE he=>(h M w a hM hU hE hap hUE he).mono λ_ _ ⟨x,h1,h2,h3⟩=>⟨x,h1,h2,hw x _ _ _ h3⟩
end
section
variable {M:Fr} {w0:World} {n:Nat} {Γ:List (Nat×Ty)} {As:List Atom} {a:Act} {w:World} {α:Type}
def Qdo {R:Rep α} {e:TypeId} {xs:List α} {v:Value} {F:Blk} {w:World} (h:(own R e xs v).ok F w):v.oneCell'=true:=by rcases Qa8 h with⟨hv,_⟩ | ⟨b,cap,cur,hv,_⟩<;>rw[hv]<;>rfl
def QlG {R:Rep α} {e:TypeId} {F:Blk} {w:World}:(own R e ([]:List α) nilV).ok F w:=⟨[],World.ownsRow_nil _ _ _ _,rfl,λj T u hT=>by simp at hT⟩
def St.merge {A B C:Atom} (h:St M w0 n Γ (A::B::As) a w) (hfp:∀k,C.fp k->A.fp k\/B.fp k) (hok:∀F w,A.ok F w->B.ok F w->(∀k,A.fp k->¬B.fp k)->C.ok F w):St M w0 n Γ (C::As) a w:=by
 have hap:=h.apart;unfold Qda at hap;rw[pairwise_cons,pairwise_cons] at hap;obtain⟨h1,h2,h3⟩:=hap;have hf:∀k,fps (C::As) k->fps (A::B::As) k:=by
  rintro k ⟨D,hD,hk⟩;rcases Zm.1 hD with rfl | hD
  ·rcases hfp k hk with h | h
   ·exact⟨A,by simp,h⟩
   ·exact⟨B,by simp,h⟩
  ·exact⟨D,by simp[hD],hk⟩
 refine⟨h.size,h.defers,h.grow,h.m0,?_,?_,?_,λp hp=>p.2.keep (Qbq hf) (λ_ _=>rfl) (h.Xo p hp)⟩
 ·intro D hD;rcases Zm.1 hD with rfl | hD
  ·exact hok _ _ (A.keep (Qbq hf) (λ_ _=>rfl) (λ_ _=>rfl) (h.own A (by simp))) (B.keep (Qbq hf) (λ_ _=>rfl) (λ_ _=>rfl) (h.own B (by simp))) (h1 B (by simp))
  ·exact D.keep (Qbq hf) (λ_ _=>rfl) (λ_ _=>rfl) (h.own D (by simp[hD]))
 ·intro D hD k hk;rcases Zm.1 hD with rfl | hD
  ·rcases hfp k hk with hh | hh
   ·exact h.fresh A (by simp) k hh
   ·exact h.fresh B (by simp) k hh
  ·exact h.fresh D (by simp[hD]) k hk
 ·refine pairwise_cons.2 ⟨λD hD k hk hkD=>?_,h3⟩;rcases hfp k hk with hh | hh
  ·exact h1 D (by simp[hD]) k hh hkD
  ·exact h2 D hD k hh hkD
def QvN {R:Rep α} {e:TypeId} {xs:List α} {u:Value} {xss yss:List (List α)} {us:List Value} {i:Int} {F:Blk} {w:World} (hs:setAt xss i xs=some yss) (hA:(own R e xs u).ok F w) (hB:(rows R e xss us).ok F w)
  (hd:∀k,(own R e xs u).fp k->¬(rows R e xss us).fp k):(rows R e yss (us.set i.toNat u)).ok F w:=by
 obtain⟨h1,h2,h3⟩:=hB;unfold setAt at hs;split at hs
 ·rename_i hc;obtain rfl:=Zz hs;have hi:i.toNat<xss.length:=by omega
  refine⟨by simpa using h1,λj zs u' hj hu'=>?_,?_⟩
  ·rw[getElem?_set] at hj hu';by_cases hji:i.toNat=j
   ·rw[Ze hji,Ze (by omega)] at hj hu';obtain rfl:=Zz hj;obtain rfl:=Zz hu';exact hA
   ·rw[Zb hji] at hj hu';exact h2 j zs u' hj hu'
  ·rw[pairwise_iff_getElem] at h3 ⊢;intro p q hp hq hpq k hk hk2;rw[getElem_set] at hk hk2;simp only[ZS] at hp hq;by_cases hip:i.toNat=p
   ·rw[Ze hip] at hk;rw[Zb (by omega)] at hk2;exact hd k hk ⟨_,Zn hq,hk2⟩
   ·rw[Zb hip] at hk;by_cases hiq:i.toNat=q
    ·rw[Ze hiq] at hk2;exact hd k hk2 ⟨_,Zn hp,hk⟩
    ·rw[Zb hiq] at hk2;exact h3 p q hp hq hpq k hk hk2
 ·cases hs
def QsP {l:List Value} {i:Nat} {u v:Value} (h:v∈l.set i u):v=u\/v∈l:=by
 rcases mem_or_eq_of_mem_set h with h | h
 ·exact .inr h
 ·exact .inl h
def St.put {R:Rep α} {e:TypeId} {xs:List α} {u:Value} {xss yss:List (List α)} {us:List Value} (i:Int) (hs:setAt xss i xs=some yss) (h:St M w0 n Γ (Sim.own R e xs u::rows R e xss us::As) a w):St M w0 n Γ (rows R e yss (us.set i.toNat u)::As) a w:=
 h.merge (λk ⟨v,hv,hk⟩=>by
  rcases QsP hv with rfl | hv
  ·exact .inl hk
  ·exact .inr ⟨v,hv,hk⟩) (λ_ _ hA hB hd=>QvN hs hA hB hd)
def St.push {R:Rep α} {e:TypeId} {xs:List α} {u:Value} {xss:List (List α)} {us:List Value} (h:St M w0 n Γ (Sim.own R e xs u::rows R e xss us::As) a w):St M w0 n Γ (rows R e (xss++[xs]) (us++[u])::As) a w:=
 h.merge (λk ⟨v,hv,hk⟩=>by
  rcases ZH.1 hv with hv | hv
  ·exact .inr ⟨v,hv,hk⟩
  ·obtain rfl:=Zg.1 hv;exact .inl hk) (λF w hA ⟨h1,h2,h3⟩ hd=>by
  refine⟨by simp[h1],λj zs u' hj hu'=>?_,?_⟩
  ·by_cases hjl:j<xss.length
   ·rw[ZD hjl] at hj;rw[ZD (by omega)] at hu';exact h2 j zs u' hj hu'
   ·rw[Zv (by omega)] at hj;rw[Zv (by omega),h1] at hu'
    match hq:j - xss.length,hj,hu' with
    | 0,hj,hu'=>simp at hj hu';subst hj;subst hu';exact hA
    | m+1,hj,_=>simp at hj
  ·refine pairwise_append.2 ⟨h3,pairwise_singleton _ _,λv hv u' hu' k hk hk2=>?_⟩;obtain rfl:=Zg.1 hu';exact hd k hk2 ⟨v,hv,hk⟩)
def QqP {R:Rep α} {e1 e2:TypeId} {xss:List (List α)} {us:List Value} {v:Value} {F F':Blk} {w:World} (hF:∀k,F k->F' k) (h1:(own rVal e1 us v).ok F w) (h2:(rows R e2 xss us).ok F w) (f1:∀k,(own rVal e1 us v).fp k->F' k)
  (f2:∀k,(rows R e2 xss us).fp k->F' k):(tsl (rSl R) xss).ok F' w v:=by
 obtain⟨hl,hr,_⟩:=h2;rcases Qa8 h1 with⟨hv,hx⟩ | ⟨b,cap,cur,hv,hb,c1,c2,c3,c4⟩
 ·have:xss=[]:=ZU (by rw[<-hl,hx];rfl);subst this;exact⟨none,0,hv,Zp _,λh=>(h rfl).elim⟩
 ·refine⟨_,cap,by rw[hv,hl],by omega,λ_=>⟨b,0,rfl,f1 b (by rw[hv];exact Qbz.2 rfl),λj T hT=>?_⟩⟩;have hj:j<xss.length:=by
   have:=(Zc.1 hT).1;rw[QaF] at this;simpa using this
  have hT2:T=tsl R xss[j]:=by have:=Qek (rSl R) xss j 0 xss[j] (Zf hj) Nat.one_pos;simp only[Nat.mul_one,Nat.add_zero] at this;rw[this] at hT;simpa using hT.symm
  subst hT2;have hju:j<us.length:=by omega
  have hju2:j<(cur.toList.take (us.length * 1)).length:=by rw[c4.1,QaF];simpa using hju
  have hT3:(us.flatMap rVal.cs)[j]?=some (tvs us[j]):=by have:=Qek rVal us j 0 us[j] (Zf hju) Nat.one_pos;simp only[Nat.mul_one,Nat.add_zero] at this;rw[this];rfl
  have hcell:=c4.2 j _ _ hT3 (Zf hju2);obtain⟨hval,_⟩:=hcell;have hcj:j<cur.size:=by simp at hju2;omega
  refine⟨us[j],?_,?_⟩
  ·rw[<-hval];simp[World.cell?,hb,hcj]
  ·have hown:=hr j xss[j] us[j] (Zf hj) (Zf hju);exact QbR.own (x:=.const us[j]) (Γ:=[]) (U:=[Sim.own R e2 xss[j] us[j]]) (R:=R) (e:=e2) (xs:=xss[j]) (v:=us[j]) .k (by simp) F F' w ⟨#[],[]⟩ hF (λA hA=>by simp at hA;subst hA;exact⟨hown,λk hk=>f2 k ⟨us[j],Zn hju,hk⟩⟩) (λp hp=>by simp at hp)
def QbR.table {U:List Atom} {x:Operand} {R:Rep α} {e1 e2:TypeId} {xss:List (List α)} {us:List Value} {v:Value} (h:Fct Γ x (tv v)) (h1:Sim.own rVal e1 us v∈U) (h2:rows R e2 xss us∈U):QbR Γ U x (tsl (rSl R) xss):=by intro F F' w a hF hA h0;have hv:a.eval x=v:=h F w a h0;rw[hv];exact QqP hF (hA _ h1).1 (hA _ h2).1 (hA _ h1).2 (hA _ h2).2
def QbR.row {U:List Atom} {x:Operand} {R:Rep α} {e2:TypeId} {xss:List (List α)} {xs:List α} {us:List Value} {i:Int} (h:Fct Γ x (tv (usAt us i))) (hi:idx xss i=some xs) (hU:rows R e2 xss us∈U):QbR Γ U x (tsl R xs):=by intro F F' w a hF hA h0;have hv:a.eval x=usAt us i:=h F w a h0;obtain⟨hok,hfp⟩:=hA _ hU;have:=QbR.own (x:=.const (usAt us i)) (Γ:=[]) (U:=[Sim.own R e2 xs (usAt us i)]) (R:=R) (e:=e2) (xs:=xs) (v:=usAt us i) .k (by simp) F F' w ⟨#[],[]⟩ hF (λA hA'=>by simp at hA';subst hA';exact⟨Qt1 hi _ _ hok,λk hk=>hfp k (QvM (xss:=xss) k hk)⟩) (λp hp=>by simp at hp);rw[hv];exact this
end
@[reducible] def ti (x : Int) : Ty := tv (.int .i64 x)
@[reducible] def tb (x : Bool) : Ty := tv (.bool x)
section
variable {M:Fr} {w0:World} {n:Nat} {Γ:List (Nat×Ty)} {As:List Atom} {a:Act} {w:World} {α:Type}
def Xj (As:List Atom) (is:List Nat):List Atom:=is.filterMap λi=>As[i]?
def QpE {As:List Atom} (hap:Qda As) {is:List Nat} (hd:Qcd is=true):Qda (Xj As is):=by
 unfold Qda Xj at *;rw[pairwise_filterMap];refine (show is.Pairwise (·≠·) from QhJ hd).imp ?_;intro i j hij A hA B hB k hk hkB;rw[pairwise_iff_getElem] at hap;obtain⟨hi,rfl⟩:=Zc.1 hA;obtain⟨hj,rfl⟩:=Zc.1 hB;rcases Nat.lt_trichotomy i j with h | h | h
 ·exact hap i j hi hj h k hk hkB
 ·exact hij h
 ·exact hap j i hj hi h k hkB hk
def St.Xj (h:St M w0 n Γ As a w) (is:List Nat) (hd:Qcd is=true):St M w0 n Γ (Xj As is) a w:=by
 have hmem:∀A,A∈Sim.Xj As is->A∈As:=by intro A hA;obtain⟨i,_,hi⟩:=Yj.1 hA;exact Zo hi
 have hf:∀k,fps (Sim.Xj As is) k->fps As k:=λk ⟨A,hA,hk⟩=>⟨A,hmem A hA,hk⟩;exact⟨h.size,h.defers,h.grow,h.m0,λA hA=>A.keep (Qbq hf) (λ_ _=>rfl) (λ_ _=>rfl) (h.own A (hmem A hA)),λA hA=>h.fresh A (hmem A hA),QpE h.apart hd,λp hp=>p.2.keep (Qbq hf) (λ_ _=>rfl) (h.Xo p hp)⟩
def St.Xm {R:Rep α} {e:TypeId} {xs:List α} {v:Value} {s:Nat} (i:Nat) (h:St M w0 n Γ (Sim.own R e xs v::As) a w) (hi:Γ[i]?=some (s,tv v)):St M w0 n ((s,tsl R xs)::Γ) As a w:=h.share i hi
end
section
variable {Γ:List (Nat×Ty)} {P:Program} {d:Option Tmp} {ty:TypeId} {pos:String} {af:Array Edge} {g:Option (Nat×Bool)} {x y:Operand} {T:Ty} {t e e1 e2:TypeId} {α:Type} {R:Rep α} {bytes:Nat} {z:Value} {xss:List (List α)} {us:List Value} {v:Value}
def zokV:∀F w,(rVal.ty nilV).ok F w (.slice none 0 0):=λ_ _=>⟨rfl,rfl⟩
def Qt2 {xs:List α} {u:Value} (ht:P.underlying t=some (.slice e1)) (hz:TOk P e1 rVal bytes z) (hx:Fct Γ x (tv u)):OpJ P ⟨d,.buildSlice t 1 #[(0,x)],ty,pos,af,g⟩ Γ [own R e xs u] [] (λ_=>[]) (λ_=>tsl rVal [u]):=.say (A:=own R e xs u) (by simp) (λ_ _ h=>Qdo h) λhu=>(QK (R:=rVal) (len:=1) (us:=[u]) ht hz (.cons (hx.Xn λ_ _ _ h=>⟨h,hu⟩) (.nil _)) rfl (by show 1 * 1<=16777216;omega)).Xp (λA hA=>by cases hA)
def Qms (hz:TOk P t rVal bytes (.slice none 0 0)):OpJ P ⟨d,.alloc t,ty,pos,af,g⟩ Γ [] [] (λp=>[box (rVal.cs nilV) p]) (λp=>tv p):=QV (R:=rVal) (a:=nilV) hz zokV
def Qkz {q u:Value} (hz:TOk P t rVal bytes z) (hp:Fct Γ x (tv q)):OpJ P ⟨d,.load t x,ty,pos,af,g⟩ Γ [box (rVal.cs u) q] [] (λ_=>[]) (λ_=>tv u):=Qbt (Qbm (R:=rVal) (u:=u) hz hp rfl) (λ_ _ _ _ h=>h.1)
def LendT (U:List Atom) (T T':Ty):Prop:=∀(F F':Blk) (w:World) (v:Value),(∀k,F k->F' k)->(∀A∈U,A.ok F w/\∀k,A.fp k->F' k)->T.ok F w v->T'.ok F' w v
inductive Qob (U:List Atom):List Ty->List Ty->Prop where
 | nil:Qob U [] []
 | cons {T T':Ty} {Tc Tc':List Ty} (h:LendT U T T') (hs:Qob U Tc Tc'):Qob U (T::Tc) (T'::Tc')
def row1 {T:Ty} {F:Blk} {w:World} {b off:Nat} {u:Value} (hu:w.cell? ⟨b,off,none⟩=some u) (h:T.ok F w u):Row [T] F w b off:=λj T' hj=>by
 match j,hj with
 | 0,hj=>simp at hj;subst hj;exact⟨u,hu,h⟩
def Qob.cells {U:List Atom} {Tc Tc':List Ty} (h:Qob U Tc Tc') {F F':Blk} {w:World} {vs:List Value} (hF:∀k,F k->F' k) (hA:∀A∈U,A.ok F w/\∀k,A.fp k->F' k) (hc:QW Tc F w vs):QW Tc' F' w vs:=by
 induction h generalizing vs with
 | nil=>exact (by have:=hc.inv0;subst this;exact .nil)
 | cons h hs ih=>obtain⟨u,us,rfl,h1,h2⟩:=hc.inv;exact .cons (h F F' w u hF hA h1) (ih h2)
def Qcz {f:Operand} {fid:FuncId} {Tc Ts:List Ty} {xs:List Operand} {ts:Array TypeId} {E:List Atom} {N:Value->List Atom} {T:Value->Ty} (hc:QB P fid) (hfn:FnOk P fid (Ts++Tc) E N T)
  (hf:Fct Γ f (Qcc fid Tc)) (ha:Args Γ [] xs Ts):OpJ P ⟨d,.call { callee:=.value f,args:=xs.toArray,argTypes:=ts },ty,pos,af,g⟩ Γ [] E N T:=by
 intro M w a hM _ hE hap _ he;obtain⟨caps,hfv,hcap⟩:=hf.use (by simp[Op.operands,Call.operands]) he;have hargs:=ha.cells (F:=free M w) (F':=free M w) (a:=a) (λ_ h=>h) (λA hA=>by simp at hA) (λp hp hx=>he p hp (by simp[Op.operands,Call.operands,hx]));have hcells:=hargs.append hcap;simp only[Does,QnI hc hfv];refine Calls.mono (hfn M w _ hM hE hap hcells) ?_;rintro e w' ⟨x,v,he,h⟩;exact⟨v,he,x,h⟩
def QsQ {xs:List α} {v:Value} {F:Blk} {w:World} (h:(own R e xs v).ok F w):∃us,QW (xs.flatMap R.cs) F w us/\((v=.slice none 0 0/\xs=[])\/∃b cap,v=.slice (some ⟨b,0,none⟩) xs.length cap/\∀j u,us[j]?=some u->w.cell? ⟨b,j,none⟩=some u):=by
 rcases Qa8 h with⟨hv,hx⟩ | ⟨b,cap,cur,hv,hb,h1,h2,h3,h4⟩
 ·subst hx;exact⟨[],.nil,.inl ⟨hv,rfl⟩⟩
 ·refine⟨_,h4,.inr ⟨b,cap,hv,λj u hu=>?_⟩⟩;rw[getElem?_take] at hu;split at hu
  ·simp only[World.cell?,hb];simpa using hu
  ·cases hu
end
def cutV (m:Nat) (v:Value) (i j:Int):Value:=match v with
 | .slice ad _ cap=>.slice (if cap=i.toNat then ad else ad.map (·.add (i.toNat * m))) (j.toNat - i.toNat) (cap - i.toNat)
 | x=>x
def QgX {α:Type} {xs ys:List α} {i j:Int} (h:sub xs i j=some ys):0<=i/\i<=j/\j.toNat<=xs.length/\ys=(xs.drop i.toNat).take (j.toNat - i.toNat)/\ys.length=j.toNat - i.toNat:=by
 unfold sub at h;split at h
 ·rename_i hc;obtain rfl:=Zz h;exact⟨hc.1,hc.2.1,by omega,rfl,by simp;omega⟩
 ·cases h
section
variable {Γ:List (Nat×Ty)} {P:Program} {d:Option Tmp} {ty:TypeId} {pos:String} {af:Array Edge} {g:Option (Nat×Bool)} {x y:Operand} {T:Ty} {t t2 e:TypeId} {α:Type} {R:Rep α} {bytes:Nat} {z:Value} {v:Value} {k k2:IntKind} {a b:Int}
def Qm7 {xs:List α} {v:Value} {F:Blk} {w:World} (h:(own R e xs v).ok F w):∃ad cap,v=.slice ad xs.length cap/\xs.length<=cap:=by
 rcases Qa8 h with⟨hv,hn⟩ | ⟨b,cap,cur,hv,_,h1,_⟩
 ·subst hn;exact⟨none,0,hv,Zp _⟩
 ·exact⟨_,cap,hv,h1⟩
def Qoc {xs ys:List α} {lo hi:Option Operand} {i j:Int} (ht:P.underlying t=some (.slice e)) (hz:TOk P e R bytes z) (hx:Fct Γ x (tv v)) (hlo:Bd Γ lo 0 i) (hhi:Bd Γ hi xs.length j) (h:sub xs i j=some ys):
  OpJ P ⟨d,.slice t x lo hi none,ty,pos,af,g⟩ Γ [own R e xs v] [] (λ_=>[]) (λ_=>tv (cutV R.n v i j)):=
 Qcq λM w A hU he=>by
  obtain⟨ad,cap,hv,hlc⟩:=Qm7 (hU _ (Zg.2 rfl));have hxv:=hx.val (by simp[Op.operands]) he;obtain⟨ti,hti,_,hs,_⟩:=hz.info;obtain⟨c0,c1,c2,_,_⟩:=QgX h;have hb:(Instr.sliceBounds true xs.length cap (lo.map A.eval) (hi.map A.eval) none).run P w=.ok (i.toNat,j.toNat,cap) w:=by
   rcases hlo.use (by rintro y rfl;simp[Op.operands]) he with⟨e1,e2⟩ | ⟨k1,e1⟩<;>rcases hhi.use (by rintro y rfl;simp[Op.operands]) he with⟨f1,f2⟩ | ⟨k2,f1⟩
   ·rw[e1,f1,e2,f2];simp[Instr.sliceBounds]
   ·rw[e1,f1,e2];simp only[Instr.sliceBounds,Sem.run_bind,Sem.run_pure,Zj,run_sliceBound w k2 j cap _ (by omega) (by omega)];rfl
   ·rw[e1,f1,f2];simp only[Instr.sliceBounds,Sem.run_bind,Sem.run_pure,Zj,run_sliceBound w k1 i xs.length _ c0 (by omega)];simp
   ·rw[e1,f1];simp only[Instr.sliceBounds,Sem.run_bind,Sem.run_pure,Zj,run_sliceBound w k2 j cap _ (by omega) (by omega),run_sliceBound w k1 i j.toNat _ c0 (by omega)]
  refine⟨cutV R.n v i j,?_,rfl⟩;subst hv;simp[execOp,Instr.sliceAt,run_underlying ht,Instr.slice,hxv,hb,sizeOf,typeInfo,hti,hs,cutV]
def QsR {xs:List α} {b n cap m:Nat} {F:Blk} {w:World} (h:(own R e xs (.slice (some ⟨b,0,none⟩) n cap)).ok F w) (hm:m<=xs.length):(own R e (xs.take m) (.slice (some ⟨b,0,none⟩) m cap)).ok F w:=by
 rcases Qa8 h with⟨hv,_⟩ | ⟨b',cap',cur,hv,hb,h1,h2,h3,h4⟩
 ·simp at hv
 ·simp only[Value.slice.injEq,ZB,Addr.mk.injEq,and_true] at hv;obtain⟨rfl,rfl,rfl⟩:=hv;have hl:(xs.take m).length=m:=by simp;omega
  have hmm:m * R.n<=xs.length * R.n:=Nat.mul_le_mul_right _ hm;have:=QhK (R:=R) (xs:=xs.take m) (F:=F) (e:=e) hb (by rw[hl];omega) h2 h3 ?_
  ·rw[hl] at this;exact this
  ·rw[hl];have f1:=Row.Xr R xs 0 m (by omega);simp only[drop_zero,Nat.zero_mul] at f1;rw[f1];refine⟨by simp only[ZE,QaF];have:=h4.1;simp only[ZE,QaF] at this;omega,λj T u hT hu=>?_⟩;rw[getElem?_take] at hT hu;split at hT
   ·rename_i hj;rw[Ze hj] at hu;exact h4.2 j T u hT (by rw[getElem?_take,Ze (by omega)];exact hu)
   ·cases hT
def Qo9 {m:Nat} {i j:Int} {α:Type} {ys:List α} (h:sub ([]:List α) i j=some ys):cutV m (.slice none 0 0) i j=.slice none 0 0/\ys=[]:=by
 obtain⟨c0,c1,c2,hy,hl⟩:=QgX h;have hj:j.toNat=0:=by simpa using c2
 have hi:i.toNat=0:=by omega
 refine⟨by simp[cutV,hi,hj],by rw[hy];simp⟩
def QpF {m b n cap:Nat} {j:Int}:cutV m (.slice (some ⟨b,0,none⟩) n cap) 0 j=.slice (some ⟨b,0,none⟩) j.toNat cap:=by simp[cutV,Qbb]
def QqQ {m b n cap:Nat} {i j:Int} {xs ys:List α} (hs:sub xs i j=some ys) (hn:xs.length<=cap) (hy:ys≠[]):cutV m (.slice (some ⟨b,0,none⟩) n cap) i j=.slice (some ⟨b,i.toNat * m,none⟩) ys.length (cap - i.toNat):=by obtain⟨c0,c1,c2,_,hl⟩:=QgX hs;have:0<ys.length:=length_pos_iff.2 hy;simp only[cutV];rw[Zb (by omega),hl];simp[Qbb]
end
def Fct.fnE {Γ:List (Nat×Ty)} {f:FuncId}:Fct Γ (.func f) (Qcc f []):=λF w a h=>⟨[],Fct.fn F w a h⟩
def tsn {α:Type} (R:Rep α) (xs:List α):Ty:=tand (tsl R xs) ⟨λ_ _ v=>xs=[]->v=.slice none 0 0,λ_ _ h=>h⟩
def ne {α:Type} (xs:List α):Option Unit:=match xs with | []=>none | _::_=>some ()
section
variable {Γ:List (Nat×Ty)} {P:Program} {d:Option Tmp} {ty:TypeId} {pos:String} {af:Array Edge} {g:Option (Nat×Bool)} {x y:Operand} {T:Ty} {t e:TypeId} {α:Type} {R:Rep α} {bytes:Nat} {z:Value} {xs ys:List α}
def Fct.sn {x:Operand} (h:Fct Γ x (tsl R xs)) (hne:xs≠[]):Fct Γ x (tsn R xs):=h.Xn λ_ _ _ h=>⟨h,λe=>(hne e).elim⟩
def QzG {F:Blk} {w:World} {v:Value} (h:(tsn R xs).ok F w v):∃ad n c,v=.slice ad n c/\ad.isNone=xs.isEmpty:=by
 obtain⟨⟨ad,cap,hv,_,hr⟩,hn⟩:=h;refine⟨ad,xs.length,cap,hv,?_⟩
 cases xs with
 | nil=>have:=hn rfl;rw[hv] at this;simp only[Value.slice.injEq] at this;rw[this.1];rfl
 | cons u us=>obtain⟨b,off,ha,_⟩:=hr (by simp);rw[ha];rfl
def QzH {t2:TypeId} (ht:P.underlying t=some (.slice e)) (hx:Fct Γ x (tsn R xs)):OpJ P ⟨d,.binOp .eql t x (.const (.slice none 0 0)) t2,ty,pos,af,g⟩ Γ [] [] (λ_=>[]) (λ_=>tv (.bool xs.isEmpty)):=QaQ λF w a he=>by obtain⟨ad,n,c,hv,hn⟩:=QzG (hx.use (by simp[Op.operands]) he);refine⟨.bool ad.isNone,?_,by rw[hn];rfl⟩;simp[execOp,hv,Qiu,eqGuard,binOp,Qqa ht]
def QzI {t2:TypeId} (ht:P.underlying t=some (.slice e)) (hx:Fct Γ x (tsn R xs)):OpJ P ⟨d,.binOp .neq t x (.const (.slice none 0 0)) t2,ty,pos,af,g⟩ Γ [] [] (λ_=>[]) (λ_=>tv (.bool !xs.isEmpty)):=QaQ λF w a he=>by obtain⟨ad,n,c,hv,hn⟩:=QzG (hx.use (by simp[Op.operands]) he);refine⟨.bool !ad.isNone,?_,by rw[hn];rfl⟩;simp[execOp,hv,Qiu,eqGuard,binOp,Qqa ht]
def OpJ.ro {o:Oper} (h:OpJ P o Γ [] [] (λv=>[own R e xs v]) (λv=>tv v)):OpJ P o Γ [] [] (λ_=>[]) (λ_=>tsl R xs):=by
 intro M w a hM hU hE hap hUE he;refine (h M w a hM hU hE hap hUE he).mono ?_;rintro v w' ⟨x,hs,hm,hv⟩;have hv:v=x:=hv;subst hv;have hfp:=hm.place _ (Zg.2 rfl);have hok:=hm.ok _ (Zg.2 rfl);refine⟨undef,hs,Qfn,?_⟩;simp only[Qj5];refine QbR.own (x:=.const v) (Γ:=[]) (U:=[own R e xs v]) (R:=R) (e:=e) (xs:=xs) (v:=v) .k (by simp) (free (next M [] [own R e xs v]) w') (free M w') w' ⟨#[],[]⟩ (λk ⟨h1,h2⟩=>⟨h1,λhm=>h2 (.inl ⟨hm,λh=>(by rw[Qej] at h;exact h)⟩)⟩) (λA hA=>?_) (λp hp=>by simp at hp);obtain rfl:=Zg.1 hA;refine⟨hok,λk hk=>⟨(hfp k hk).2,λhm=>?_⟩⟩;have:=hM k hm;rcases (hfp k hk).1 with h | h
 ·rw[Qej] at h;exact h
 ·omega
end

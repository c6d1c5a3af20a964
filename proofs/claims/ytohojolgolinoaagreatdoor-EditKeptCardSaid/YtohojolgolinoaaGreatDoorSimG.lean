/- The logic's seventh part. No condition. -/
import Derived.Test.YtohojolgolinoaaGreatDoorSimA
set_option linter.all false
open List
namespace Go.Sim
variable {α:Type} {xs:List α} {i:Int} {Ts:List Ty} {w:World} {F:Blk} {v:Value} {U E:List Atom} {N:Value->List Atom} {R:Rep α} {T:Ty} {us:List Value} {P:Program} {Q:Exit->Act->World->Prop} {ts:Array TypeId} {β:Type} {Γ:List (Nat×Ty)} {j:Int} {ops:List Oper} {A:Atom} {F':Blk} {M:Fr} {w0:World} {As:List Atom} {is:List Info} {off:Nat} {caps:List Value} {Tc:List Ty} {r:α} {dg:Nat} {want draw:Bool} {Bs:List Atom} {B:Atom} {y:Option α} {T':Value->Ty} {af:Array Edge} {V:List Ver} {new:Nat->Value} {pl:Array (Nat×Nat)} {Ts':List Ty} {fs:Array Field} {ps:Array (Nat×Operand)} {R2:Rep β} {e':TypeId} {d:Option Tmp} {ty:TypeId} {pos:String} {x:Operand} {t:TypeId} {bytes:Nat} {z:Value} {a:Act} {xss:List (List α)}
def FnOk (P:Program) (f:FuncId) (Ts:List Ty) (E:List Atom) (N:Value->List Atom) (T:Value->Ty):Prop:=∀(M:Blk) (w:World) (vs:List Value),(∀k,M k->k<w.heap.size)->DL M E w->BA E->QW Ts (free M w) w vs->Calls P f vs.toArray w (λe w'=>∃x v,e=.returned v/\Step (AR E) w w'/\Made M E (N x) w w'/\(T x).ok (free (next M E (N x)) w') w' v)
def tclo (f:FuncId) (caps:List Value) (Tc:List Ty):Ty:=⟨λF w v=>v=.func (.func f) #[] caps.toArray/\QW Tc F w caps,λb c h=>⟨h.1,QW.keep b c h.2⟩⟩
structure Qj (P:Program) (f:FuncId):Prop where
 fn : ∃ fn, P.funcs[f]? = some fn ∧ (fn.name == "runtime.NumGoroutine") = false ∧ fn.body.isNone = false
def ck (P : Program) (f : FuncId) : Bool := match P.funcs[f]? with | some b => !(b.name == "runtime.NumGoroutine") && !b.body.isNone | none => false
def cal {f:FuncId} (h:ck P f=true:=by kernel_rfl):Qj P f:=by
 unfold ck at h
 cases e:P.funcs[f]? with
 | none=>rw[e] at h;cases h
 | some b=>rw[e,Zh,Yk,Yk] at h;exact⟨b,e,h.1,h.2⟩
def CF (Γ:List (Nat×Ty)) (U:List Atom) (x:Operand) (T:Ty):Prop:=∀(F F':Blk) (w:World) (a:Act),(∀k,F k->F' k)->(∀A∈U,A.ok F w/\∀k,A.fp k->F' k)->(∀p∈Γ,Operand.tmp p.1=x->p.2.ok F w (get a p.1))->T.ok F' w (a.eval x)
inductive Args (Γ:List (Nat×Ty)) (U:List Atom):List Operand->List Ty->Prop where
 | nil:Args Γ U [] []
 | cons {x:Operand} {T:Ty} {xs:List Operand} {Ts:List Ty} (h:CF Γ U x T) (hs:Args Γ U xs Ts):Args Γ U (x::xs) (T::Ts)
def DC (T:Ty):Prop:=∀(F F':Blk) (w:World) (v:Value),T.ok F w v->T.ok F' w v
def Ek (A:Atom):Prop:=∀(F F':Blk) (w:World),A.ok F w->A.ok F' w
def Row.Xs (R:Rep α) (xs:List α) (i m:Nat) (h:i+m<=xs.length):((xs.drop i).take m).flatMap R.cs=((xs.flatMap R.cs).drop (i * R.n)).take (m * R.n):=by
 have e1:xs.flatMap R.cs=(xs.take i).flatMap R.cs++((xs.drop i).take m).flatMap R.cs++((xs.drop i).drop m).flatMap R.cs:=by rw[<-ZM,<-ZM,ZJ,Yw,Yw]
 have b:((xs.take i).flatMap R.cs).length=i * R.n:=by rw[Aw];congr 1;simp;omega
 have c:(((xs.drop i).take m).flatMap R.cs).length=m * R.n:=by rw[Aw];congr 1;simp;omega
 rw[e1,ZJ,<-b,drop_left,<-c,take_left]
section
variable {g:Option (Nat×Bool)} {y:Operand} {e:TypeId}
def UY {k:IntKind} {a b:Int} (hx:Fct Γ x (tv (.int k a))) (hy:Fct Γ y (tv (.int k b))):OpJ P ⟨d,.call { callee:=.builtin .max,args:=#[x,y],argTypes:=ts },ty,pos,af,g⟩ Γ [] [] (λ_=>[]) (λ_=>tv (.int k (imax a b))):=AZ λF w A c=>by have f:=hx.val sc c;have h:=hy.val sc c;exact⟨_,by simp[execOp,resolve,invoke,builtin,Builtin.max_,Builtin.max2,f,h,imax],rfl⟩
def UZ {k:IntKind} {a b:Int} (hx:Fct Γ x (tv (.int k a))) (hy:Fct Γ y (tv (.int k b))):OpJ P ⟨d,.call { callee:=.builtin .min,args:=#[x,y],argTypes:=ts },ty,pos,af,g⟩ Γ [] [] (λ_=>[]) (λ_=>tv (.int k (imin a b))):=AZ λF w A c=>by have f:=hx.val sc c;have h:=hy.val sc c;exact⟨_,by simp[execOp,resolve,invoke,builtin,Builtin.min_,Builtin.min2,f,h,imin],rfl⟩
inductive Bd (Γ:List (Nat×Ty)):Option Operand->Int->Int->Prop where
 | no (dflt:Int):Bd Γ none dflt dflt
 | op {x:Operand} {k:IntKind} {i dflt:Int} (h:Fct Γ x (tv (.int k i))):Bd Γ (some x) dflt i
def Bd.use {b:Option Operand} {c:Int} {xs:Array Operand} {A:Act} (h:Bd Γ b c i) (hx:∀y,b=some y->y∈xs) (f:D4 Γ xs F w A):(b.map A.eval=none/\i=c)\/∃k,b.map A.eval=some (.int k i):=by
 cases h with
 | no=>exact .inl ⟨rfl,rfl⟩
 | op h=>exact .inr ⟨_,ZU some (h.val (hx _ rfl) f)⟩
def kR {xs c:List α} {lo hi:Option Operand} (ht:P.underlying t=some (.slice e)) (hz:TOk P e R bytes z) (hx:Fct Γ x (tsl R xs)) (k:Bd Γ lo 0 i) (l:Bd Γ hi xs.length j) (h:sub xs i j=some c):
  OpJ P ⟨d,.slice t x lo hi none,ty,pos,af,g⟩ Γ [] [] (λ_=>[]) (λ_=>tsl R c):=
 AZ λF w A m=>by
  have⟨u,cap,L,O,S⟩:=hx.use oq m;have⟨ti,p,_,W,_⟩:=hz.info;unfold sub at h;split at h
  ·rename_i hc;have⟨C,Y,D⟩:=hc;simp only[ZQ] at h;have hb:(Instr.sliceBounds true xs.length cap (lo.map A.eval) (hi.map A.eval) none).run P w=.ok (i.toNat,j.toNat,cap) w:=by
    have Z:((j.toNat:Nat):Int)=j:=by omega
    rcases k.use (by rintro y rfl;simp[Op.operands]) m with⟨e1,e2⟩ | ⟨H,e1⟩<;>rcases l.use (by rintro y rfl;simp[Op.operands]) m with⟨f1,f2⟩ | ⟨I,f1⟩
    ·rw[e1,f1,e2,f2];simp[Instr.sliceBounds]
    ·rw[e1,f1,e2];simp only[Instr.sliceBounds,Sem.run_bind,Sem.run_pure,Zl,run_sliceBound w I j cap _ om om];rfl
    ·rw[e1,f1,f2];simp only[Instr.sliceBounds,Sem.run_bind,Sem.run_pure,Zl,run_sliceBound w H i xs.length _ C om];simp
    ·rw[e1,f1];simp only[Instr.sliceBounds,Sem.run_bind,Sem.run_pure,Zl,run_sliceBound w I j cap _ om om,run_sliceBound w H i j.toNat _ C om]
   refine⟨.slice (if cap=i.toNat then u else u.map (·.add (i.toNat * R.n))) (j.toNat - i.toNat) (cap - i.toNat),?_,?_⟩
   ·simp[execOp,Instr.sliceAt,run_underlying ht,Instr.slice,L,hb,sizeOf,typeInfo,p,W]
   ·have q:c.length=j.toNat - i.toNat:=by rw[<-h];simp;omega
    refine⟨_,cap - i.toNat,by rw[q],om,λhne=>?_⟩;have K:0<c.length:=by
     rcases Nat.eq_zero_or_pos c.length with h0 | h0
     ·exact (hne (ZW h0)).elim
     ·exact h0
    have⟨b,off,ha,hb,f⟩:=S (λX=>by rw[X] at D;simp at D;omega);refine⟨b,off+i.toNat * R.n,?_,hb,?_⟩
    ·rw[Zb om,ha];simp[Aj]
    ·rw[<-h,Row.Xs R xs _ _ om];refine (f.part (i.toNat * R.n)).head ?_;rw[ZY,take_eq_take_iff];simp
  ·cases h
def CG {xs:List α} (h:(own R e xs v).ok F w):
  (v=.slice none 0 0/\xs=[])\/∃b cap cur,v=.slice (some ⟨b,0,none⟩) xs.length cap/\w.heap[b]?=some (.cells cur e (0,0))/\xs.length<=cap/\cap<=maxLen/\cur.size=cap * R.n/\QW (xs.flatMap R.cs) F w (cur.toList.take (xs.length * R.n)):=by
 have⟨us,f,hc⟩:=h;rcases f.2 with⟨c,k⟩ | ⟨b,cap,cur,c,_,hb,l,m,p,q⟩
 ·exact .inl ⟨c,ZW k⟩
 ·exact .inr ⟨b,cap,cur,c,hb,l,m,p,by rw[q];exact hc⟩
def FH {xs:List α} {b cap:Nat} {cur:Array Value} (hb:w.heap[b]?=some (.cells cur e (0,0))) (f:xs.length<=cap) (h:cap<=maxLen) (k:cur.size=cap * R.n) (c:QW (xs.flatMap R.cs) F w (cur.toList.take (xs.length * R.n))):
  (own R e xs (.slice (some ⟨b,0,none⟩) xs.length cap)).ok F w:=
 ⟨cur.toList.take (xs.length * R.n),⟨by rw[c.1,Aw],.inr ⟨b,cap,cur,rfl,Nat.zero_le _,hb,f,h,k,rfl⟩⟩,c⟩
def QW.append {Us:List Ty} {vs:List Value} (h:QW Ts F w us) (k:QW Us F w vs):QW (Ts++Us) F w (us++vs):=by
 have e1:=h.1;refine⟨by simp[h.1,k.1],λj T u b hu=>?_⟩;by_cases c:j<Ts.length
 ·rw[Zv c] at b;rw[Zv om] at hu;exact h.2 j T u b hu
 ·rw[ZA om] at b;rw[ZA om,e1] at hu;exact k.2 _ T u b hu
def BB {xs:List α} {k b n c:Nat}:(own R e xs (.slice (some ⟨b,0,none⟩) n c)).fp k↔k=b:=by
 show some b=some k↔k=b;constructor
 ·intro h;cases h;rfl
 ·rintro rfl;rfl
def Vg {xs l:List α} {ad:Option Addr} {c:Nat} (ht:P.underlying t=some (.slice e)) (hz:TOk P e R bytes z) (hb:bytes<=2048) (ho:(own R e xs v).ok F w) (hF:∀k,F k->k<w.heap.size/\¬(own R e xs v).fp k) (Z:∀k,F k->F' k) (hr:l≠[]->∃b off,ad=some ⟨b,off,none⟩/\Row (l.flatMap R.cs) F w b off) (h:rm (xs.length+l.length)=some ()):
  ∃v' w',(Builtin.append_ #[t,t] ty #[v,.slice ad l.length c]).run P w=.ok v' w'/\Step (own R e xs v).fp w w'/\(∀k,(own R e (xs++l) v').fp k->((own R e xs v).fp k\/w.heap.size<=k)/\k<w'.heap.size)/\(own R e (xs++l) v').ok F' w':=by
 have⟨ti,O,a6,S,a7⟩:=hz.info;have D:xs.length+l.length<=68719476736:=by unfold rm at h;split at h<;>first | assumption | cases h
 have b2:∀k,(own R e xs v).fp k->k<w.heap.size:=by
  intro k m;rcases CG ho with⟨W,_⟩ | ⟨b,cap,cur,W,H,_⟩
  ·rw[W] at m;cases m
  ·rw[W] at m;rw[BB.1 m];exact (Array.getElem?_eq_some_iff.1 H).1
 by_cases hy:l=[]
 ·subst hy;refine⟨v,w,?_,Step.refl _ _,λk m=>⟨.inl m,b2 k m⟩,?_⟩
  ·rcases CG ho with⟨W,hx⟩ | ⟨b,cap,cur,W,H,h1,_⟩
   ·subst W;cases ad<;>simp[Builtin.append_,run_underlying ht,sizeOf,typeInfo,O,Builtin.lenOf,Builtin.firstCells,loadCells,loadCellsFrom]
   ·subst W;cases ad<;>simp[Builtin.append_,run_underlying ht,sizeOf,typeInfo,O,Builtin.lenOf,Builtin.firstCells,loadCells,loadCellsFrom,h1,storeCells]
  ·rw[Yg];exact Atom.keep _ Z (λ_ _=>rfl) (λ_ _=>rfl) ho
 ·have⟨b,off,ha,a8⟩:=hr hy;subst ha;have⟨f,L,a3⟩:=Jj _ _ a8;have hm:0<l.length:=by
   rcases Nat.eq_zero_or_pos l.length with h0 | h0
   ·exact (hy (ZW h0)).elim
   ·exact h0
  have p:f.length=l.length * ti.size:=by rw[L.1,Aw,S]
  have I:∀j u,f[j]?=some u->w.cell? ((⟨b,off,none⟩:Addr).add j)=some u:=λj u hu=>by rw[Aj];exact a3 j u hu
  have a9:∀u∈f,u.oneCell'=true:=by
   intro u hu;have⟨j,hj⟩:=ZX.1 hu;have b0:j<(l.flatMap R.cs).length:=by rw[<-L.1];exact (Zf.1 hj).1
   have hT:=L.2 j _ u (Zd b0) hj;have⟨q,_,hq⟩:=Ya.1 (Zr b0);exact R.one q _ hq F w u hT
  have b1:z.cells.size=R.n:=hz.zc;rcases CG ho with⟨W,hx⟩ | ⟨gb,cap,cur,W,H,h1,h2,h3,h4⟩
  ·subst W;subst hx;simp only[Zm,Nat.zero_add] at D;have X:l.length * ti.bytes<=281474976710656:=by
    rw[a7]
    calc l.length * bytes<=68719476736 * 2048:=Nat.mul_le_mul D hb
     _<=281474976710656:=by omega
   have C:=run_append_nil (P:=P) w t ty e ti z ht O a6 ⟨b,off,none⟩ l.length c f p I hm om X;have a4:=grownCap_ge w l.length 0 e;have a0:=grownCap_le_maxLen w l.length 0 e (by unfold maxLen;omega);refine⟨_,_,C,⟨rfl,rfl,rfl,sm,λk m _=>Go.RowKit.Below.heap_alloc w.drew _ k m⟩,?_,?_⟩
   ·intro k m;rw[BB.1 m];exact⟨.inr (Zq _),sm⟩
   ·rw[Yl];apply FH (cur:=f.toArray++Builtin.zeroCells z.cells (grownCap w l.length 0 e - l.length)) (heap_alloc_new w.drew _) a4 a0
    ·simp only[Array.size_append,size_toArray,size_zeroCells,p,b1,S,<-Nat.add_mul];congr 1;omega
    ·have e1:(f.toArray++Builtin.zeroCells z.cells (grownCap w l.length 0 e - l.length)).toList.take (l.length * R.n)=f:=by
      rw[Array.toList_append,take_left' (by rw[p,S])]
     rw[e1];exact L.Xr Z (λk m=>Go.RowKit.Below.heap_alloc w.drew _ k (hF k m).1)
  ·subst W;have K:(cur.toList.take (xs.length * R.n)).length=xs.length * ti.size:=by rw[h4.1,Aw,S]
   have b3:xs.length * R.n<=cur.size:=by rw[h3];exact Nat.mul_le_mul_right _ h1
   by_cases Y:xs.length+l.length<=cap
   ·have a1:xs.length * ti.size+f.length<=cur.size:=by rw[p,h3,S,<-Nat.add_mul];exact Nat.mul_le_mul_right _ Y
    have C:=run_append_room (P:=P) w t ty e ti ht O gb xs.length cap cur H ⟨b,off,none⟩ l.length c f p I a9 Y a1;refine⟨_,_,C,Gs (BB.2 rfl),?_,?_⟩
    ·intro k m;rw[BB.1 m];exact⟨.inl (BB.2 rfl),by simpa using (Array.getElem?_eq_some_iff.1 H).1⟩
    ·rw[<-Ze];apply FH (setRow_heap w gb cur _ e _ H) (sa Y) h2
     ·simp only[size_toArray,Ze,ZY,Yi,Array.length_toList,S];rw[S] at a1;omega
     ·have e1:(cur.toList.take (xs.length * ti.size)++f++cur.toList.drop (xs.length * ti.size+f.length)).take ((xs++l).length * R.n)=cur.toList.take (xs.length * R.n)++f:=by
       rw[S];apply take_left';rw[Ze,p,S,ZY,Ze,Nat.add_mul];simp;omega
      simp only;rw[e1,ZM];refine (h4.append L).Xr Z (λk m=>setRow_other w gb k _ (λe=>?_));exact (hF k m).2 (BB.2 e)
   ·have X:(xs.length+l.length) * ti.bytes<=140737488355328:=by
     rw[a7]
     calc (xs.length+l.length) * bytes<=68719476736 * 2048:=Nat.mul_le_mul D hb
      _<=140737488355328:=by omega
    have a5:∀j u,(cur.toList.take (xs.length * R.n))[j]?=some u->w.cell? ((⟨gb,0,none⟩:Addr).add j)=some u:=by
     intro j u hu;rw[getElem?_take] at hu;split at hu
     ·rw[Aj,Nat.zero_add];simpa[World.cell?,H] using hu
     ·cases hu
    have C:=run_append_grow (P:=P) w t ty e ti z ht O a6 ⟨gb,0,none⟩ xs.length cap _ K a5 ⟨b,off,none⟩ l.length c f p I om om (growslice_fits om X);have a4:=grownCap_ge w (xs.length+l.length) cap e;have a0:=grownCap_le_maxLen w (xs.length+l.length) cap e (by unfold maxLen;omega);refine⟨_,_,C,⟨rfl,rfl,rfl,sm,λk m _=>Go.RowKit.Below.heap_alloc w.drew _ k m⟩,?_,?_⟩
    ·intro k m;rw[BB.1 m];exact⟨.inr (Zq _),sm⟩
    ·have el:xs.length+l.length=(xs++l).length:=by simp
     have a2:=a4;rw[el] at a2 a0 ⊢;apply FH (heap_alloc_new w.drew _) a2 a0
     ·simp only[Array.size_append,size_toArray,size_zeroCells,K,p,b1,S,<-Nat.add_mul];congr 1;omega
     ·have e1:(((cur.toList.take (xs.length * R.n)).toArray++f.toArray++Builtin.zeroCells z.cells (grownCap w (xs++l).length cap e - (xs++l).length)).toList).take ((xs++l).length * R.n)=cur.toList.take (xs.length * R.n)++f:=by
       rw[Array.toList_append,Array.toList_append];apply take_left';simp only[Ze,K,p,S,Nat.add_mul]
      rw[e1,ZM];exact (h4.append L).Xr Z (λk m=>Go.RowKit.Below.heap_alloc w.drew _ k (hF k m).1)
def Ef {xs D:List α} (ht:P.underlying t=some (.slice e)) (hz:TOk P e R bytes z) (hb:bytes<=2048) (hx:Fct Γ x (tv v)) (hy:Fct Γ y (tsl R D)) (h:rm (xs.length+D.length)=some ()):
  OpJ P ⟨d,.call { callee:=.builtin .append,args:=#[x,y],argTypes:=#[t,t] },ty,pos,af,g⟩ Γ [] [own R e xs v] (λv'=>[own R e (xs++D) v']) (λv'=>tv v'):=by
 intro M w A hM _ K _ _ L;have⟨O,H⟩:=K _ (Zi.2 rfl);have q:=Cr K;have S:=hx.val sc L;have⟨ad,cap,W,_,X⟩:=hy.use sc L;have⟨v',w',u,f,l,I⟩:=Vg (ty:=ty) (c:=cap) (F:=free M w) (F':=λk=>k<w.heap.size/\¬M k) ht hz hb O (λk m=>⟨m.1,λhf=>m.2 (H k hf)⟩) (λk m=>m)
  (λhne=>let⟨b,off,ha,_,C⟩:=X hne;⟨b,off,ha,C⟩) h
 have p:(execOp A.eval (⟨d,.call { callee:=.builtin .append,args:=#[x,y],argTypes:=#[t,t] },ty,pos,af,g⟩:Oper)).run P w=.ok (.value v') w':=by simp only[execOp,resolve,invoke,builtin,Sem.run_bind,Sem.run_pure,Zl,map_toArray,Ys,Yy,S,W,u]
 simp only[Does,p];refine⟨v',f.mono (λk m=>AU.2 m),BX (λk m=>⟨(l k m).1.imp AU.2 id,(l k m).2⟩) ?_,rfl⟩;refine Atom.keep _ (λk m=>?_) (λ_ _=>rfl) (λ_ _=>rfl) I;refine Cp f.size q (λB Y j Z=>?_) m;obtain rfl:=Zi.1 Y;exact (l j Z).1.imp AU.2 id
def CF.of (h:Fct Γ x T):CF Γ U x T:=λF _ w a b _ h0=>T.keep b (λ_ _=>rfl) (h F w a h0)
def CF.own {xs:List α} (h:Fct Γ x (tv v)) (hU:own R e xs v∈U):CF Γ U x (tsl R xs):=by
 intro F F' w a u hA h0;have C:a.eval x=v:=h F w a h0;have⟨f,k⟩:=hA _ hU;rw[C];rcases CG f with⟨c,hx⟩ | ⟨b,cap,cur,c,hb,D,H,I,m⟩
 ·subst hx;exact⟨none,0,c,Zq _,λh=>(h rfl).elim⟩
 ·refine⟨_,cap,c,D,λ_=>⟨b,0,rfl,k b (by rw[c];exact BB.2 rfl),λj T p=>?_⟩⟩;have q:j<(cur.toList.take (xs.length * R.n)).length:=by rw[m.1];exact (Zf.1 p).1
  refine⟨(cur.toList.take (xs.length * R.n))[j],?_,T.keep u (λ_ _=>rfl) (m.2 j T _ p (Zd q))⟩;have l:j<cur.size:=by simp at q;omega
  simp[World.cell?,hb,l]
def Fct.fn {f:FuncId}:Fct Γ (.func f) (tclo f [] []):=λ_ _ _ _=>⟨rfl,rfl,λj T u h=>by simp at h⟩
def Args.cells {xs:List Operand} {a:Act} (h:Args Γ U xs Ts) (l:∀k,F k->F' k) (hU:∀A∈U,A.ok F w/\∀k,A.fp k->F' k) (c:∀p∈Γ,Operand.tmp p.1∈xs->p.2.ok F w (get a p.1)):
  QW Ts F' w (xs.map a.eval):=by
 induction h with
 | nil=>exact⟨rfl,λj T u h=>by simp at h⟩
 | @cons x T xs Ts h C m=>
  have q:=h F F' w a l hU (λp hp e=>c p hp (by rw[e];simp));have f:=m (λp hp e=>c p hp (by simp[e]));refine⟨by simp[f.1],λj T' u b hu=>?_⟩
  cases j with
  | zero=>simp at b hu;subst b;subst hu;exact q
  | succ j=>exact f.2 j T' u (sa b) (sa hu)
def RH {f:Operand} {b:FuncId} {xs:List Operand} {a:Act} (hc:Qj P b) (hf:a.eval f=.func (.func b) #[] caps.toArray):
  (execOp a.eval (⟨d,.call { callee:=.value f,args:=xs.toArray,argTypes:=ts },ty,pos,af,g⟩:Oper)).run P w=.ok (.enter b (xs.map a.eval++caps).toArray) w:=by
 have⟨l,c,h,k⟩:=hc;simp only[execOp,resolve,Deferred.ofValue,hf,invoke,callFunc,Sem.run_bind,Sem.run_pure,run_program,Zl,c,h,k,Yo,if_false,map_toArray];simp
def kS {f:Operand} {c:FuncId} {xs:List Operand} {T:Value->Ty} (hc:Qj P c) (q:FnOk P c (Ts++Tc) E N T) (hf:Fct Γ f (tclo c caps Tc)) (ha:Args Γ [] xs Ts):OpJ P ⟨d,.call { callee:=.value f,args:=xs.toArray,argTypes:=ts },ty,pos,af,g⟩ Γ [] E N T:=by
 intro M w a D _ H u _ m;have⟨C,l⟩:=hf.use sc m;have k:=ha.cells (F:=free M w) (F':=free M w) (a:=a) (λ_ h=>h) (λA hA=>by simp at hA) (λp hp hx=>m p hp (by simp[Op.operands,Call.operands,hx]));have b:=k.append l;simp only[Does,RH hc C];apply Calls.mono (q M w _ D H u b);rintro e w' ⟨x,v,m,h⟩;exact⟨v,m,x,h⟩
def kT {f:Operand} {l:FuncId} {xs:List Operand} {T:Value->Ty} (U:List Atom) (hc:Qj P l) (I:FnOk P l (Ts++Tc) E N T) (hf:CF Γ U f (tclo l caps Tc)) (ha:Args Γ U xs Ts) (hT:∀x,DC (T x)) (hN:∀x,∀A∈N x,Ek A):OpJ P ⟨d,.call { callee:=.value f,args:=xs.toArray,argTypes:=ts },ty,pos,af,g⟩ Γ U E N T:=by
 intro M w a hM hU hE K L H;have O:∀k,(M k/\¬∃A∈U,A.fp k)->k<w.heap.size:=λk h=>hM k h.1;have b:∀k,free M w k->free (λk=>M k/\¬∃A∈U,A.fp k) w k:=λk h=>⟨h.1,λhm=>h.2 hm.1⟩;have u:∀A∈U,A.ok (free M w) w/\∀k,A.fp k->free (λk=>M k/\¬∃A∈U,A.fp k) w k:=λA hA=>⟨(hU A hA).1,λk C=>⟨hM k ((hU A hA).2 k C),λhm=>hm.2 ⟨A,hA,C⟩⟩⟩;have S:DL (λk=>M k/\¬∃A∈U,A.fp k) E w:=λB W=>⟨B.keep b (λ_ _=>rfl) (λ_ _=>rfl) (hE B W).1,λk C=>⟨(hE B W).2 k C,λ⟨A,hA,X⟩=>L A hA B W k X C⟩⟩;have⟨Y,D⟩:=hf (free M w) _ w a b u (λp hp hx=>H p hp (by simp[Op.operands,Call.operands,hx]));have m:=ha.cells (a:=a) b u (λp hp hx=>H p hp (by simp[Op.operands,Call.operands,hx]));have c:=m.append D;simp only[Does,RH hc Y];apply Calls.mono (I _ w _ O S K c);rintro e w' ⟨x,v,H,hg,q,Z⟩;exact⟨v,H,x,hg,⟨q.apart,q.place,λA hA=>hN x A hA _ _ _ (q.ok A hA)⟩,hT x _ _ _ _ Z⟩
end
section
variable {σ ρ:Type}
def iter (body:σ->Option (σ⊕ρ)):Nat->σ->Option ρ
 | 0,_=>none
 | n+1,s=>match body s with
  | none=>none
  | some (.inl b)=>iter body n b
  | some (.inr r)=>some r
def kU (body:σ->Option (σ⊕ρ)):∀(n m:Nat) (s:σ) (r q:ρ),iter body n s=some r->iter body m s=some q->r=q:=by
 intro n
 induction n with
 | zero=>intro m s r q h;cases h
 | succ n b=>
  intro m s r q h k
  cases m with
  | zero=>cases k
  | succ m=>
   simp only[iter] at h k
   cases hb:body s with
   | none=>rw[hb] at h;cases h
   | some o=>
    rw[hb] at h k
    cases o with
    | inl c=>exact b m c r q h k
    | inr f=>simp only[ZQ] at h k;rw[<-h,<-k]
open Classical in
noncomputable def Qr (body:σ->Option (σ⊕ρ)) (s:σ):Option ρ:=if h:∃r n,iter body n s=some r then some h.choose else none
def F2 {body:σ->Option (σ⊕ρ)} {s:σ} {r:ρ}:Qr body s=some r↔∃n,iter body n s=some r:=by
 unfold Qr;constructor
 ·intro h;split at h
  ·rename_i hx;simp only[ZQ] at h;rw[<-h];exact hx.choose_spec
  ·cases h
 ·rintro ⟨n,b⟩;have hx:∃r n,iter body n s=some r:=⟨r,n,b⟩;rw[dif_pos hx];have⟨m,hm⟩:=hx.choose_spec;exact ZU some (kU body m n s _ _ hm b)
def Dz (body:σ->Option (σ⊕ρ)) (s:σ):Qr body s=match body s with | none=>none | some (.inl c)=>Qr body c | some (.inr r)=>some r:=by
 cases hb:body s with
 | none=>
  simp only
  cases ht:Qr body s with
  | none=>rfl
  | some r=>
   have⟨n,b⟩:=F2.1 ht
   cases n with
   | zero=>cases b
   | succ n=>simp[iter,hb] at b
 | some o=>
  cases o with
  | inr r=>exact F2.2 ⟨1,by simp[iter,hb]⟩
  | inl c=>
   simp only
   cases ht:Qr body c with
   | some r=>have⟨n,b⟩:=F2.1 ht;exact F2.2 ⟨n+1,by simp[iter,hb,b]⟩
   | none=>
    cases f:Qr body s with
    | none=>rfl
    | some r=>
     have⟨n,b⟩:=F2.1 f
     cases n with
     | zero=>cases b
     | succ n=>simp only[iter,hb] at b;rw[F2.2 ⟨n,b⟩] at ht;cases ht
end
def bind_some {x:Option α} {f:α->Option β} {r:β} (h:x.bind f=some r):∃a,x=some a/\f a=some r:=by
 cases x with
 | none=>cases h
 | some a=>exact⟨a,rfl,h⟩
def C6 {b:Bool} {x:Option α} (hb:b=true) (h:(if b then x else y)=some r):x=some r:=by rw[Zc hb] at h;exact h
def C7 {b:Bool} {x:Option α} (hb:b=false) (h:(if b then x else y)=some r):y=some r:=by rw[hb] at h;exact h
def opt (c:Bool) (x:Option α) (b:α):Option α:=if c then x else some b
def Dm {c:Bool} {x:Option α} {b:α} (h:opt c x b=some r) (hc:c=true):x=some r:=by unfold opt at h;rw[Zc hc] at h;exact h
@[reducible] def v0 (A : Atom) : Ver := ⟨[],λ_ => A⟩
@[reducible] def v1 (i : Nat) (f : Value -> Atom) : Ver := ⟨[i],λl => f (l.getD 0 undef)⟩
@[reducible] def v2 (i j : Nat) (f : Value -> Value -> Atom) : Ver := ⟨[i,j],λl => f (l.getD 0 undef) (l.getD 1 undef)⟩
@[reducible] def v3 (i j k : Nat) (f : Value -> Value -> Value -> Atom) : Ver := ⟨[i,j,k],λl => f (l.getD 0 undef) (l.getD 1 undef) (l.getD 2 undef)⟩
section
variable {i:Nat} {o:Oper} {os:List Oper}
def Run.p (b:o.guard=none) (h:OpJ P o Γ [] [] (λ_=>[]) (λ_=>T)) (c:Run P ops V new (i+1) (addD o.dst T Γ) os is):Run P ops V new i Γ (o::os) (⟨⟨[],λ_=>T⟩,[],[],[]⟩::is):=.step (.plain b h) c
def Run.q {d:Option Tmp} {ty:TypeId} {pos:String} {t:Nat} (k:Nat) (h:Γ[k]?=some (t,T)) (b:Run P ops V new (i+1) (addD d T Γ) os is):Run P ops V new i Γ (⟨d,.move (.tmp t),ty,pos,af,none⟩::os) (⟨⟨[],λ_=>T⟩,[],[],[]⟩::is):=.p rfl (CS (.t k h)) b
def Run.u (us:List Nat) (hU:us.map (λu=>ver V u new)=U) (b:o.guard=none) (h:OpJ P o Γ U [] (λ_=>[]) (λ_=>T)) (c:Run P ops V new (i+1) (addD o.dst T Γ) os is):
  Run P ops V new i Γ (o::os) (⟨⟨[],λ_=>T⟩,us,[],[]⟩::is):=
 .step (.plain b (by subst hU;exact h)) c
def Run.ud {f:Value->Ty} (j:Nat) (b:Nat.beq j i=false) (us:List Nat) (hU:us.map (λu=>ver V u new)=U) (c:o.guard=none) (h:OpJ P o Γ U [] (λ_=>[]) (λ_=>f (new j))) (k:Run P ops V new (i+1) (addD o.dst (f (new j)) Γ) os is):
  Run P ops V new i Γ (o::os) (⟨⟨[j],λl=>f (l.getD 0 undef)⟩,us,[],[]⟩::is):=
 .step (.plain c (by
  have e:(λx=>TyN.ty (upd new i x) ⟨[j],λl=>f (l.getD 0 undef)⟩)=λ_=>f (new j):=by
   funext x
   show f (upd new i x j)=_;rw[FF (Nat.ne_of_beq_eq_false b)]
  subst hU;rw[e];exact h)) k
def Run.pd {f:Value->Ty} (j:Nat) (b:Nat.beq j i=false) (c:o.guard=none) (h:OpJ P o Γ [] [] (λ_=>[]) (λ_=>f (new j))) (k:Run P ops V new (i+1) (addD o.dst (f (new j)) Γ) os is): Run P ops V new i Γ (o::os) (⟨⟨[j],λl=>f (l.getD 0 undef)⟩,[],[],[]⟩::is):=Run.ud j b [] rfl c h k
def Run.ud2 {f:Value->Value->Ty} (j k:Nat) (b:Nat.beq j i=false) (c:Nat.beq k i=false) (us:List Nat) (hU:us.map (λu=>ver V u new)=U) (m:o.guard=none) (h:OpJ P o Γ U [] (λ_=>[]) (λ_=>f (new j) (new k))) (p:Run P ops V new (i+1) (addD o.dst (f (new j) (new k)) Γ) os is):Run P ops V new i Γ (o::os) (⟨⟨[j,k],λl=>f (l.getD 0 undef) (l.getD 1 undef)⟩,us,[],[]⟩::is):=
 .step (.plain m (by
  have e:(λx=>TyN.ty (upd new i x) ⟨[j,k],λl=>f (l.getD 0 undef) (l.getD 1 undef)⟩)=λ_=>f (new j) (new k):=by
   funext x
   show f (upd new i x j) (upd new i x k)=_;rw[FF (Nat.ne_of_beq_eq_false b),FF (Nat.ne_of_beq_eq_false c)]
  subst hU;rw[e];exact h)) p
def Run.e {f:Value->Ty} (us b c:List Nat) (hU:us.map (λu=>ver V u new)=U) (k:b.map (λu=>ver V u new)=E) (m:(λx=>c.map λu=>ver V u (upd new i x))=N) (p:o.guard=none) (h:OpJ P o Γ U E N f) (q:Run P ops V new (i+1) (addD o.dst (f (new i)) Γ) os is):Run P ops V new i Γ (o::os) (⟨⟨[i],λl=>f (l.getD 0 undef)⟩,us,b,c⟩::is):=
 .step (.plain p (by
  have e:(λx=>TyN.ty (upd new i x) ⟨[i],λl=>f (l.getD 0 undef)⟩)=f:=by
   funext x
   show f (upd new i x i)=_;rw[NV]
  subst hU;subst k;subst m;rw[e];exact h)) q
def Run.m {f:Value->Ty} (us b:List Nat) (hU:us.map (λu=>ver V u new)=U) (c:(λx=>b.map λu=>ver V u (upd new i x))=N) (k:o.guard=none) (h:OpJ P o Γ U [] N f) (m:Run P ops V new (i+1) (addD o.dst (f (new i)) Γ) os is):Run P ops V new i Γ (o::os) (⟨⟨[i],λl=>f (l.getD 0 undef)⟩,us,[],b⟩::is):=Run.e us [] b hU rfl c k h m
def Run.g {g:Nat} {c:Bool} (b:o.guard=some (g,want)) (f:(ops[g]?).bind (·.dst)=some dg) (hc:Grd Γ dg want c) (h:c=true->OpJ P o Γ [] [] (λ_=>[]) (λ_=>T)) (k:Run P ops V new (i+1) (addD o.dst (CE c T) Γ) os is):Run P ops V new i Γ (o::os) (⟨⟨[],λ_=>CE c T⟩,[],[],[]⟩::is):=
 .step (.guard g want dg c T b f hc rfl rfl rfl sm h) k
def Run.gu {g:Nat} {c:Bool} (us:List Nat) (hU:us.map (λu=>ver V u new)=U) (b:o.guard=some (g,want)) (f:(ops[g]?).bind (·.dst)=some dg) (hc:Grd Γ dg want c) (h:c=true->OpJ P o Γ U [] (λ_=>[]) (λ_=>T)) (k:Run P ops V new (i+1) (addD o.dst (CE c T) Γ) os is):Run P ops V new i Γ (o::os) (⟨⟨[],λ_=>CE c T⟩,us,[],[]⟩::is):=
 .step (.guard g want dg c T b f hc rfl rfl rfl sm (by subst hU;exact h)) k
def Run.ge {f:Value->Ty} {N:Bool->Value->List Atom} {g:Nat} {c:Bool} (us p m:List Nat) (hU:us.map (λu=>ver V u new)=U) (C:p.map (λu=>ver V u new)=E) (D:(λx=>m.map λu=>ver V u (upd new i x))=N c) (H:o.guard=some (g,want)) (I:(ops[g]?).bind (·.dst)=some dg) (hc:Grd Γ dg want c) (h:c=true->OpJ P o Γ U E (N true) f) (h0:N false undef=E) (q:Run P ops V new (i+1) (addD o.dst (CE c (f (new i))) Γ) os is):
  Run P ops V new i Γ (o::os) (⟨⟨[i],λl=>CE c (f (l.getD 0 undef))⟩,us,p,m⟩::is):=
 .step (.guardE g want dg c H I hc (λb=>by
   have e:(λx=>TyN.ty (upd new i x) ⟨[i],λl=>CE c (f (l.getD 0 undef))⟩)=λx=>CE c (f x):=by
    funext x
    show CE c (f (upd new i x i))=_;rw[NV]
   rw[e];simp only[hU,C,D];intro M w a K L O S W X;have:=h b M w a K L O S W X;rw[b];apply this.mono;rintro v w' ⟨x,q,hm,ht⟩;exact⟨x,q,hm,λ_=>ht,λhf=>by cases hf⟩) (λk=>by
   have e1:(m.map λu=>ver V u (upd new i undef))=N c undef:=congrFun D undef;refine⟨?_,?_⟩
   ·show (m.map λu=>ver V u (upd new i undef))=p.map λu=>ver V u new;rw[e1,C,k,h0]
   ·intro F w;show (CE c (f (upd new i undef i))).ok F w undef;rw[k];exact⟨λhf=>(by cases hf),λ_=>rfl⟩)) q
end
def verA (As:List Atom) (b:List Ver):List Ver:=As.map v0++b
def Vh (As:List Atom) (b:List Ver) (u:Nat) (A:Atom) (h:As[u]?=some A) (x:Nat->Value):ver (verA As b) u x=A:=by have hu:u<As.length:=(Zf.1 h).1;have c:As[u]=A:=(Zf.1 h).2;simp[ver,verA,Zv,hu,c]
def CQ {n:Nat} {a:Act} {id:Nat} (hm:P.follows .mixedOrders=true) (b:List Ver) (k:St M w0 n Γ As a w) (c:∀new,Run P ops (verA As b) new 0 Γ ops is) (f:chk ops is ((verA As b).map (·.ds)) (Γ.map (·.1)) As.length (verA As b).length n=true) (m:∀new l w',St M w0 n (outG ops is Γ new) (Cb (verA As b) is new) l w'->Q .normal l w'):(Code.region id ops.toArray draw).wp P Q a w:=
 kH _ is hm k c (λu A h x=>Vh As b u A h x) f m
def wr {n:Nat} {a:Act} {id:Nat} (hm:P.follows .mixedOrders=true) (b:List Ver) (h:St M w0 n Γ As a w) (c:∀new,Run P ops (verA As b) new 0 Γ ops is) (l:∀new k w',St M w0 n (outG ops is Γ new) (Cb (verA As b) is new) k w'->Q .normal k w') (f:chk ops is ((verA As b).map (·.ds)) (Γ.map (·.1)) As.length (verA As b).length n=true:=by kernel_rfl):(Code.region id ops.toArray draw).wp P Q a w:=CQ hm b h c f l
def sr {n:Nat} {a:Act} {id:Nat} {c:Code} (hm:P.follows .mixedOrders=true) (b:List Ver) (k:St M w0 n Γ As a w) (f:∀new,Run P ops (verA As b) new 0 Γ ops is) (m:∀new l w',St M w0 n (outG ops is Γ new) (Cb (verA As b) is new) l w'->c.wp P Q l w') (h:chk ops is ((verA As b).map (·.ds)) (Γ.map (·.1)) As.length (verA As b).length n=true:=by kernel_rfl):(Code.seq (Code.region id ops.toArray draw) c).wp P Q a w:=wp_seq (CQ hm b k f h m)
section
variable {s:Nat} {e0 e1 e2 e3 e4 e5 e6 e7 e8 e9 e10 e11 e12 e13 e14 e15 e16 e17 e18 e19 e20 e21 e22 e23 e24 e25 e26 e27 e28 e29:Nat×Ty}
def z0:Fct ((s,T)::Γ) (.tmp s) T:=.t 0 rfl
def z1:Fct (e0::(s,T)::Γ) (.tmp s) T:=.t 1 rfl
def z2:Fct (e0::e1::(s,T)::Γ) (.tmp s) T:=.t 2 rfl
def z3:Fct (e0::e1::e2::(s,T)::Γ) (.tmp s) T:=.t 3 rfl
def z4:Fct (e0::e1::e2::e3::(s,T)::Γ) (.tmp s) T:=.t 4 rfl
def z5:Fct (e0::e1::e2::e3::e4::(s,T)::Γ) (.tmp s) T:=.t 5 rfl
def z6:Fct (e0::e1::e2::e3::e4::e5::(s,T)::Γ) (.tmp s) T:=.t 6 rfl
def z7:Fct (e0::e1::e2::e3::e4::e5::e6::(s,T)::Γ) (.tmp s) T:=.t 7 rfl
def z8:Fct (e0::e1::e2::e3::e4::e5::e6::e7::(s,T)::Γ) (.tmp s) T:=.t 8 rfl
def z9:Fct (e0::e1::e2::e3::e4::e5::e6::e7::e8::(s,T)::Γ) (.tmp s) T:=.t 9 rfl
def z10:Fct (e0::e1::e2::e3::e4::e5::e6::e7::e8::e9::(s,T)::Γ) (.tmp s) T:=.t 10 rfl
def z11:Fct (e0::e1::e2::e3::e4::e5::e6::e7::e8::e9::e10::(s,T)::Γ) (.tmp s) T:=.t 11 rfl
def z12:Fct (e0::e1::e2::e3::e4::e5::e6::e7::e8::e9::e10::e11::(s,T)::Γ) (.tmp s) T:=.t 12 rfl
def z14:Fct (e0::e1::e2::e3::e4::e5::e6::e7::e8::e9::e10::e11::e12::e13::(s,T)::Γ) (.tmp s) T:=.t 14 rfl
def z15:Fct (e0::e1::e2::e3::e4::e5::e6::e7::e8::e9::e10::e11::e12::e13::e14::(s,T)::Γ) (.tmp s) T:=.t 15 rfl
def z16:Fct (e0::e1::e2::e3::e4::e5::e6::e7::e8::e9::e10::e11::e12::e13::e14::e15::(s,T)::Γ) (.tmp s) T:=.t 16 rfl
def z17:Fct (e0::e1::e2::e3::e4::e5::e6::e7::e8::e9::e10::e11::e12::e13::e14::e15::e16::(s,T)::Γ) (.tmp s) T:=.t 17 rfl
def z18:Fct (e0::e1::e2::e3::e4::e5::e6::e7::e8::e9::e10::e11::e12::e13::e14::e15::e16::e17::(s,T)::Γ) (.tmp s) T:=.t 18 rfl
def z19:Fct (e0::e1::e2::e3::e4::e5::e6::e7::e8::e9::e10::e11::e12::e13::e14::e15::e16::e17::e18::(s,T)::Γ) (.tmp s) T:=.t 19 rfl
def z20:Fct (e0::e1::e2::e3::e4::e5::e6::e7::e8::e9::e10::e11::e12::e13::e14::e15::e16::e17::e18::e19::(s,T)::Γ) (.tmp s) T:=.t 20 rfl
def z21:Fct (e0::e1::e2::e3::e4::e5::e6::e7::e8::e9::e10::e11::e12::e13::e14::e15::e16::e17::e18::e19::e20::(s,T)::Γ) (.tmp s) T:=.t 21 rfl
def z22:Fct (e0::e1::e2::e3::e4::e5::e6::e7::e8::e9::e10::e11::e12::e13::e14::e15::e16::e17::e18::e19::e20::e21::(s,T)::Γ) (.tmp s) T:=.t 22 rfl
def z23:Fct (e0::e1::e2::e3::e4::e5::e6::e7::e8::e9::e10::e11::e12::e13::e14::e15::e16::e17::e18::e19::e20::e21::e22::(s,T)::Γ) (.tmp s) T:=.t 23 rfl
def z26:Fct (e0::e1::e2::e3::e4::e5::e6::e7::e8::e9::e10::e11::e12::e13::e14::e15::e16::e17::e18::e19::e20::e21::e22::e23::e24::e25::(s,T)::Γ) (.tmp s) T:=.t 26 rfl
def z27:Fct (e0::e1::e2::e3::e4::e5::e6::e7::e8::e9::e10::e11::e12::e13::e14::e15::e16::e17::e18::e19::e20::e21::e22::e23::e24::e25::e26::(s,T)::Γ) (.tmp s) T:=.t 27 rfl
end
def Run.n {i:Nat}:Run P ops V new i Γ [] []:=.nil i Γ
def Run.o {i:Nat} {os:List Oper} {d:Option Tmp} {ins:Op} {ty:TypeId} {pos:String} (h:OpJ P ⟨d,ins,ty,pos,af,none⟩ Γ [] [] (λ_=>[]) (λ_=>T)) (b:Run P ops V new (i+1) (addD d T Γ) os is): Run P ops V new i Γ (⟨d,ins,ty,pos,af,none⟩::os) (⟨⟨[],λ_=>T⟩,[],[],[]⟩::is):=Run.p rfl h b
section
variable {M0:Blk} {n:Nat}
def BC {M0:Blk} {As:List Atom} (h:∀k,fps Bs k->fps As k):∀k,free (hold M0 As) w k->free (hold M0 Bs) w k:=λ_ b=>⟨b.1,λhm=>b.2 (hm.imp id (h _))⟩
def St.facts {Γ':List (Nat×Ty)} (h:St M w0 n Γ As a w) (b:∀p∈Γ',p∈Γ):St M w0 n Γ' As a w:=⟨h.size,h.defers,h.grow,h.m0,h.own,h.fresh,h.apart,λp hp=>h.Xp p (b p hp)⟩
def Cc (Γ:List (Nat×Ty)) (is:List Nat):List (Nat×Ty):=is.filterMap λi=>Γ[i]?
def St.pick (h:St M w0 n Γ As a w) (is:List Nat):St M w0 n (Cc Γ is) As a w:=h.facts λp hp=>by have⟨i,_,hi⟩:=Yx.1 hp;exact Zo hi
def St.to (h:St M w0 n Γ As a w) (is:List Nat) (Γ':List (Nat×Ty)) (Bs:List Atom) (b:Cc Γ is=Γ') (c:As=Bs):St M w0 n Γ' Bs a w:=by subst b c;exact h.pick is
def St.sub (h:St M w0 n Γ As a w) (b:Bs.Sublist As):St M w0 n Γ Bs a w:=by have hf:∀k,fps Bs k->fps As k:=λk ⟨A,hA,c⟩=>⟨A,b.subset hA,c⟩;exact⟨h.size,h.defers,h.grow,h.m0,λA hA=>A.keep (BC hf) (λ_ _=>rfl) (λ_ _=>rfl) (h.own A (b.subset hA)),λA hA=>h.fresh A (b.subset hA),h.apart.sublist b,λp hp=>p.2.keep (BC hf) (λ_ _=>rfl) (h.Xp p hp)⟩
def St.perm (h:St M w0 n Γ As a w) (hp:As.Perm Bs):St M w0 n Γ Bs a w:=by have hf:∀k,fps Bs k->fps As k:=λk ⟨A,hA,b⟩=>⟨A,hp.mem_iff.2 hA,b⟩;exact⟨h.size,h.defers,h.grow,h.m0,λA hA=>A.keep (BC hf) (λ_ _=>rfl) (λ_ _=>rfl) (h.own A (hp.mem_iff.2 hA)),λA hA=>h.fresh A (hp.mem_iff.2 hA),(hp.pairwise_iff (λ{x y} c k b hx=>c k hx b)).1 h.apart,λp f=>p.2.keep (BC hf) (λ_ _=>rfl) (h.Xp p f)⟩
def St.add {s:Nat} {U:Ty} (i:Nat) (h:St M w0 n Γ As a w) (hi:Γ[i]?=some (s,T)) (b:∀F w v,T.ok F w v->U.ok F w v):St M w0 n ((s,U)::Γ) As a w:=
 ⟨h.size,h.defers,h.grow,h.m0,h.own,h.fresh,h.apart,λp hp=>by
  rcases Zp.1 hp with rfl | hp
  ·exact b _ _ _ (h.Xp (s,T) (Zo hi))
  ·exact h.Xp p hp⟩
def St.nil (R:Rep α) (e:TypeId) (h:St M w0 n Γ As a w):St M w0 n Γ (Sim.own R e ([]:List α) (.slice none 0 0)::As) a w:=by
 have hf:∀k,fps (Sim.own R e ([]:List α) (.slice none 0 0)::As) k->fps As k:=by
  rintro k ⟨A,hA,b⟩;rcases Zp.1 hA with rfl | hA
  ·cases b
  ·exact⟨A,hA,b⟩
 refine⟨h.size,h.defers,h.grow,h.m0,?_,?_,?_,λp hp=>p.2.keep (BC hf) (λ_ _=>rfl) (h.Xp p hp)⟩
 ·intro A hA;rcases Zp.1 hA with rfl | hA
  ·exact⟨[],World.ownsRow_nil _ _ _ _,rfl,λj T u c=>by simp at c⟩
  ·exact A.keep (BC hf) (λ_ _=>rfl) (λ_ _=>rfl) (h.own A hA)
 ·intro A hA k b;rcases Zp.1 hA with rfl | hA
  ·cases b
  ·exact h.fresh A hA k b
 ·refine pairwise_cons.2 ⟨λB _ k b=>?_,h.apart⟩;cases b
def St.share {e:TypeId} {s:Nat} (i:Nat) (h:St M w0 n Γ (Sim.own R e xs v::As) a w) (hi:Γ[i]?=some (s,tv v)):St M w0 n ((s,tsl R xs)::Γ) As a w:=by
 have b:=h.sub (sublist_cons_self (Sim.own R e xs v) As);refine⟨b.size,b.defers,b.grow,b.m0,b.own,b.fresh,b.apart,λp hp=>?_⟩;rcases Zp.1 hp with rfl | hp
 ·have u:get a s=v:=h.Xp (s,tv v) (Zo hi);have l:=h.own (Sim.own R e xs v) sm;have m:∀k,(Sim.own R e xs v).fp k->free (hold M.m As) w k:=by
   intro k f;have c:=h.fresh _ sm k f;refine⟨c.2,?_⟩;rintro (hm | ⟨A,hA,q⟩)
   ·have:=h.m0 k hm;rcases c.1 with hb | hb
    ·exact this.2 hb
    ·omega
   ·exact (pairwise_cons.1 h.apart).1 A hA k f q
  have:=CF.own (x:=.tmp s) (Γ:=[(s,tv v)]) (U:=[Sim.own R e xs v]) (R:=R) (e:=e) (xs:=xs) (v:=v) (Fct.t 0 rfl) sm (free (hold M.m (Sim.own R e xs v::As)) w) (free (hold M.m As) w) w a
   (BC (λk ⟨A,hA,f⟩=>⟨A,by simp[hA],f⟩)) (λA hA=>by simp at hA;subst hA;exact⟨l,m⟩) (λp hp _=>by simp at hp;subst hp;exact u)
  exact this
 ·exact b.Xp p hp
def RJ {q:Value} {w:World} (h:(box Ts q).ok F w) (l:∀k,F k->F' k) (c:∀k,(box Ts q).fp k->F' k):(tptr Ts).ok F' w q:=by have⟨b,f,m⟩:=NZ h;exact⟨b,0,f,c b f,λj T p=>let⟨u,hu,ht⟩:=m j T p;⟨u,hu,T.keep l (λ_ _=>rfl) ht⟩⟩
def St.Xl {q:Value} {s:Nat} (i:Nat) (h:St M w0 n Γ (box Ts q::As) a w) (hi:Γ[i]?=some (s,tv q)):St M w0 n ((s,tand (tv q) (tptr Ts))::Γ) As a w:=by
 have b:=h.sub (sublist_cons_self (box Ts q) As);refine⟨b.size,b.defers,b.grow,b.m0,b.own,b.fresh,b.apart,λp hp=>?_⟩;rcases Zp.1 hp with rfl | hp
 ·have m:get a s=q:=h.Xp (s,tv q) (Zo hi);refine⟨m,?_⟩;simp only[m];refine RJ (h.own (box Ts q) sm) (BC (λk ⟨A,hA,f⟩=>⟨A,by simp[hA],f⟩)) (λk f=>?_);have c:=h.fresh _ sm k f;refine⟨c.2,?_⟩;rintro (hm | ⟨A,hA,l⟩)
  ·have:=h.m0 k hm;rcases c.1 with hb | hb
   ·exact this.2 hb
   ·omega
  ·exact (pairwise_cons.1 h.apart).1 A hA k f l
 ·exact b.Xp p hp
def Vi {s:Nat} {b:Bool} {x y:Code} (i:Nat) (c:St M w0 n Γ As a w) (hi:Γ[i]?=some (s,tv (.bool b))) (ht:b=true->x.wp P Q a w) (hf:b=false->y.wp P Q a w):(Code.cond (.tmp s) x y).wp P Q a w:=by have f:a.eval (.tmp s)=.bool b:=c.Xp (s,tv (.bool b)) (Zo hi);exact wp_cond_split f ht hf
def wt {s:Nat} {b:Bool} {x y:Code} (c:St M w0 n ((s,tv (.bool b))::Γ) As a w) (ht:b=true->x.wp P Q a w) (hf:b=false->y.wp P Q a w):(Code.cond (.tmp s) x y).wp P Q a w:=Vi 0 c rfl ht hf
def kV {σ ρ:Type} {c:Code} (body:σ->Option (σ⊕ρ)) (I:σ->Act->World->Prop) (out:ρ) (s0:σ) (h:Qr body s0=some out) (h0:I s0 a w) (C:∀s o a w,I s a w->body s=some o->(∀r,o=.inr r->r=out)->c.wp P (Exit.then (λH w'=>∃S,o=.inl S/\I S H w') Q) a w):(Code.loop c).wp P Q a w:=by
 have⟨n,X⟩:=F2.1 h;intro b k cs;have key:∀n s a w,iter body n s=some out->I s a w->∃e H w',Q e H w'/\Arrives P (lone (b.at a (.code c::.inLoop c::k)) cs w) b k cs e H w':=by
  intro n
  induction n with
  | zero=>intro s a w h;cases h
  | succ n Y=>
   intro s a w h Z;simp only[iter] at h
   cases hb:body s with
   | none=>rw[hb] at h;cases h
   | some o=>
    rw[hb] at h;have⟨e,m,p,u,f⟩:=C s o a w Z hb (by rintro r rfl;simpa using h) b (.inLoop c::k) cs
    cases e with
    | normal=>obtain⟨S,rfl,W⟩:=u;have⟨K,L,O,D,q⟩:=Y S m p h W;exact⟨K,L,O,D,.of_steps (Steps.trans f (.one step_inLoop)) q⟩
    | exit id=>exact⟨_,m,p,u,.pass (x:=.inLoop c) rfl (λ_ _=>.inl sm) f⟩
    | goto l=>exact⟨_,m,p,u,.pass (x:=.inLoop c) rfl (λ_ _=>.inl sm) f⟩
    | ret=>exact⟨_,m,p,u,.pass (x:=.inLoop c) rfl (λ_ _=>.inl sm) f⟩
    | panic ch=>exact⟨_,m,p,u,.pass (x:=.inLoop c) rfl (λ_ _=>.inl sm) f⟩
    | outgrown=>exact⟨_,m,p,u,.pass (x:=.inLoop c) rfl (λ_ _=>.inl sm) f⟩
 have⟨e,H,w',u,f⟩:=key n s0 a w X h0;exact⟨e,H,w',u,.of_steps (.one step_loop) f⟩
def Ret (P:Program) (b:Func) (M:Blk) (E:List Atom) (w0:World) (N:Value->List Atom) (T:Value->Ty):Exit->Act->World->Prop:=bodyPost P b (λe w'=>∃x v,e=.returned v/\Step (AR E) w0 w'/\Made M E (N x) w0 w'/\(T x).ok (free (next M E (N x)) w') w' v)
def ents (Ts:List Ty):List (Nat×Ty):=Ts.zipIdx.map λp=>(p.2,p.1)
structure A4 (M0:Blk) (E:List Atom) (M:Fr):Prop where
 b:M.b=AR E
 m:∀k,M0 k↔M.m k\/AR E k
 d:∀k,M.m k->¬AR E k
 e:M.d=[]
def FnOk.enter {f:FuncId} {m:Func} {c:Code} {T:Value->Ty} (hf:P.funcs[f]?=some m) (hb:m.body=some c) (Z:m.ntmps=n) (hl:Ts.length<=n) (h:∀M0 M w a,A4 M0 E M->St M w n (ents Ts) E a w->c.wp P (Ret P m M0 E w N T) a w):FnOk P f Ts E N T:=by
 intro M0 w vs S D K hc;have L:A4 M0 E ⟨λk=>M0 k/\¬AR E k,AR E,[]⟩:=by
  refine⟨rfl,λk=>⟨λb=>?_,?_⟩,λk b=>b.2,rfl⟩
  ·by_cases W:AR E k
   ·exact .inr W
   ·exact .inl ⟨b,W⟩
  ·rintro (b | b)
   ·exact b.1
   ·exact Cr D k b
 have X:∀k,free M0 w k->free (hold (λk=>M0 k/\¬AR E k) E) w k:=by
  rintro k ⟨h1,Y⟩;refine⟨h1,?_⟩;rintro (hm | hm)
  ·exact Y hm.1
  ·exact Y (Cr D k hm)
 refine calls_of_wp hf hb (h M0 _ w _ L ?_);have O:=hc.1;refine⟨by simp[Z];omega,rfl,Step.refl _ _,λk b=>⟨S k b.1,b.2⟩,λA hA=>A.keep X (λ_ _=>rfl) (λ_ _=>rfl) (D A hA).1,λA hA k b=>⟨.inl ⟨A,hA,b⟩,S k ((D A hA).2 k b)⟩,K,?_⟩;intro p hp;obtain⟨⟨T',i⟩,q,rfl⟩:=ZR.1 hp;have⟨j,H⟩:=ZX.1 q;rw[getElem?_zipIdx] at H
 cases I:Ts[j]? with
 | none=>simp[I] at H
 | some l=>
  simp only[I,Yb,ZQ,Yf] at H;obtain⟨rfl,rfl⟩:=H;have u:j<vs.length:=by rw[O];exact (Zf.1 I).1
  have C:get { tmps:=vs.toArray++Array.replicate (m.ntmps - vs.toArray.size) undef,defers:=[] } (0+j)=vs[j]:=by unfold get;simp[Array.getElem?_append,u]
  show l.ok _ _ (get _ (0+j));rw[C];exact l.keep X (λ_ _=>rfl) (hc.2 j l vs[j] I (Zd u))
inductive CH (P:Program) (Γ:List (Nat×Ty)) (As:List Atom):List ResultVar->List Ty->Prop where
 | nil:CH P Γ As [] []
 | tmp {t:Nat} {T:Ty} {rs:List ResultVar} {Ts:List Ty} (h:Fct Γ (.tmp t) T) (hs:CH P Γ As rs Ts):CH P Γ As (.tmp t::rs) (T::Ts)
 | cell {p:Nat} {t:TypeId} {q:Value} {α:Type} {R:Rep α} {u:α} {bytes:Nat} {z:Value} {Us:List Ty} {rs:List ResultVar} {Ts:List Ty} (hz:TOk P t R bytes z) (hp:Fct Γ (.tmp p) (tv q)) (i:Nat) (hA:As[i]?=some (box Us q)) (hU:R.cs u=Us.take (R.cs u).length)
   (hs:CH P Γ As rs Ts):CH P Γ As (.cell p t::rs) (R.ty u::Ts)
def FI:List Ty->Ty | [T]=>T | Ts=>ttup Ts
def Nb (tmps:Array Value):ResultVar->Sem Value
 | .tmp t=>pure (tmps.getD t undef)
 | .cell a t=>do loadVar t (<-asAddr (tmps.getD a undef))
def kW (b:Func) (tmps:Array Value):results b tmps=(do let vs <-b.results.mapM (Nb tmps);pure (if h:vs.size=1 then vs[0] else .tuple vs)):=rfl
def kX {C:List ResultVar} (h:CH P Γ As C Ts) (k:St M w0 n Γ As a w):
  ∃vs,(C.mapM (Nb a.tmps)).run P w=.ok vs w/\QW Ts (free (hold M.m As) w) w vs:=by
 have c:∀{t:Nat} {T:Ty},Fct Γ (.tmp t) T->T.ok (free (hold M.m As) w) w (get a t):=λh=>h _ w a (λp hp _=>k.Xp p hp)
 induction h with
 | nil=>exact⟨[],rfl,rfl,λj T u h=>by simp at h⟩
 | @tmp t T C Ts h L D=>
  have⟨vs,H,hc⟩:=D;refine⟨get a t::vs,?_,by simp[hc.1],λj T' u f hu=>?_⟩
  ·rw[mapM_cons];simp only[Nb,Sem.run_bind,Sem.run_pure,Zl,H];rfl
  ·cases j with
   | zero=>simp at f hu;subst f;subst hu;exact c h
   | succ j=>exact hc.2 j T' u (sa f) (sa hu)
 | @cell p t q α R u bytes z Us C Ts hz hp i hA hU L D=>
  have⟨vs,H,hc⟩:=D;have O:get a p=q:=c hp;have⟨b,I,l⟩:=NZ (k.own _ (Zo hA));have⟨v,m,K⟩:=F1 hz (l.head hU);refine⟨v::vs,?_,by simp[hc.1],λj T' S f hu=>?_⟩
  ·rw[mapM_cons];have e:a.tmps.getD p undef=.pointer (some ⟨b,0,none⟩):=O.trans I;have e2:(loadVar t ⟨b,0,none⟩).run P w=.ok v w:=by
    simpa[Instr.loadAt,Instr.sureAddr] using m
   have e3:(asAddr (a.tmps.getD p undef)).run P w=.ok ⟨b,0,none⟩ w:=by rw[e];rfl
   simp only[Nb,Sem.run_bind,Sem.run_pure,Zl,e3,e2];rw[H];rfl
  ·cases j with
   | zero=>simp at f hu;subst f;subst hu;exact K
   | succ j=>exact hc.2 j T' S (sa f) (sa hu)
def FE {I:Func} {O:List ResultVar} {T:Value->Ty} (x:Value) (is:List Nat) (l:A4 M0 E M) (c:St M w0 n Γ As a w) (K:I.results=O.toArray) (h:CH P Γ As O Ts) (Y:Bj is=true) (S:is.filterMap (λi=>As[i]?)=N x) (Z:T x=FI Ts):Ret P I M0 E w0 N T .ret a w:=by
 have⟨vs,C,hc⟩:=kX h c;have f:∀A,A∈N x->A∈As:=by intro A hA;rw[<-S] at hA;have⟨i,_,hi⟩:=Yx.1 hA;exact Zo hi
 have b:∀k,free (hold M.m As) w k->free (next M0 E (N x)) w k:=by
  rintro k ⟨q,W⟩;refine⟨q,?_⟩;rintro (⟨hm,hne⟩ | ⟨A,hA,u⟩)
  ·rcases (l.m k).1 hm with hm | hm
   ·exact W (.inl hm)
   ·exact hne hm
  ·exact W (.inr ⟨A,f A hA,u⟩)
 have D:(results I a.tmps).run P w=.ok (if h:vs.toArray.size=1 then vs.toArray[0] else .tuple vs.toArray) w:=by rw[kW,K,mapM_toArray];simp only[Sem.run_bind,Sem.run_map,C,Zl];rfl
 refine⟨c.defers.trans l.e,_,D,x,_,rfl,by rw[<-l.b];exact c.grow,⟨?_,λA hA k u=>?_,λA hA=>Atom.keep _ b (λ_ _=>rfl) (λ_ _=>rfl) (c.own _ (f A hA))⟩,?_⟩
 ·rw[<-S];have m:=c.apart;unfold BA at m ⊢;rw[pairwise_filterMap];refine (show is.Pairwise (·≠·) from Jh Y).imp ?_;intro i j L A hA B hB k u H;rw[pairwise_iff_getElem] at m;obtain⟨hi,rfl⟩:=Zf.1 hA;obtain⟨X,rfl⟩:=Zf.1 hB;rcases Nat.lt_trichotomy i j with h | h | h
  ·exact m i j hi X h k u H
  ·exact L h
  ·exact m j i X hi h k H u
 ·have:=c.fresh A (f A hA) k u;rw[l.b] at this;exact this
 ·rw[Z];have hl:=hc.1;by_cases q:vs.toArray.size=1
  ·rw[dif_pos q];have p:vs.length=1:=by simpa using q
   obtain⟨v,rfl⟩:=length_eq_one_iff.1 p;obtain⟨T',rfl⟩:=length_eq_one_iff.1 (hl.symm.trans p);exact T'.keep b (λ_ _=>rfl) (hc.2 0 T' v rfl rfl)
  ·rw[dif_neg q];have p:vs.length≠1:=by simpa using q
   have e:FI Ts=ttup Ts:=by
    match Ts,hl with
    | [],_=>rfl
    | [T'],hl=>exact (p (sa hl)).elim
    | T1::T2::Ts,_=>rfl
   rw[e];exact⟨vs,rfl,hc.Xr b (λ_ _=>rfl)⟩
end
def QW.nil:QW [] F w []:=⟨rfl,λj T u h=>by simp at h⟩
def QW.cons {T:Ty} {Ts:List Ty} {F:Blk} {w:World} {u:Value} {us:List Value} (h:T.ok F w u) (k:QW Ts F w us):QW (T::Ts) F w (u::us):=
 ⟨by simp[k.1],λj T' c b hu=>by
  cases j with
  | zero=>simp at b hu;subst b;subst hu;exact h
  | succ j=>exact k.2 j T' c (sa b) (sa hu)⟩
def QW.inv (h:QW (T::Ts) F w us):∃u vs,us=u::vs/\T.ok F w u/\QW Ts F w vs:=by
 match us,h with
 | [],h=>exact absurd h.1 sm
 | u::vs,h=>exact⟨u,vs,rfl,h.2 0 T u rfl rfl,by simpa using h.1,λj T' b c hu=>h.2 (j+1) T' b (sa c) (sa hu)⟩
def QW.inv0 (h:QW [] F w us):us=[]:=ZW h.1
def One (T:Ty):Prop:=∀F w v,T.ok F w v->v.oneCell'=true
def QZ {u:Value} (h:u.oneCell'=true):One (tv u):=λ_ _ v b=>by have:v=u:=b;rw[this];exact h
def DB:One (tsl R xs):=λ_ _ _ b=>by have⟨c,cap,e,_⟩:=b;rw[e];rfl
def Ae:∀T,T∈([]:List Ty)->One T:=λT h=>by simp at h
def Qt (h:One T) (b:∀U,U∈Ts->One U):∀U,U∈T::Ts->One U:=λU hU=>by
 rcases Zp.1 hU with rfl | hU
 ·exact h
 ·exact b U hU
def Ah {u:Value}:DC (tv u):=λ_ _ _ _ h=>h
def Ud (h:∀T,T∈Ts->DC T):DC (ttup Ts):=λF F' w _ ⟨us,c,hc⟩=>⟨us,c,hc.1,λj T u b hu=>h T (Zo b) F F' w u (hc.2 j T u b hu)⟩
def YR (h:∀T,T∈Ts->DC T):DC (tagg Ts):=λF F' w _ ⟨us,c,hc⟩=>⟨us,c,hc.1,λj T u b hu=>h T (Zo b) F F' w u (hc.2 j T u b hu)⟩
def Ue:∀T,T∈([]:List Ty)->DC T:=λT h=>by simp at h
def H1 (h:DC T) (b:∀U,U∈Ts->DC U):∀U,U∈T::Ts->DC U:=λU hU=>by
 rcases Zp.1 hU with rfl | hU
 ·exact h
 ·exact b U hU
def JV {e:TypeId} (h:∀x,∀T,T∈R.cs x->DC T):Ek (own R e xs v):=λF F' w ⟨us,c,hc⟩=>⟨us,c,hc.1,λj T u b hu=>by have⟨x,_,hx⟩:=Ya.1 (Zo b);exact h x T hx F F' w u (hc.2 j T u b hu)⟩
section
variable {g:Option (Nat×Bool)} {y:Operand} {e:TypeId}
def FnOk.ro {f:FuncId} {xs:List α} {T:Value->Ty} {T':Ty} (h:FnOk P f Ts [] (λv=>[own R e xs v]) T) (K:∀x F w v,(tsl R xs).ok F w x->(T x).ok F w v->T'.ok F w v):FnOk P f Ts [] (λ_=>[]) (λ_=>T'):=by
 intro M w vs D L m hc;apply Calls.mono (h M w vs D L m hc);rintro Y w' ⟨x,v,O,S,H,q⟩;have c:=H.place _ (Zi.2 rfl);have u:=H.ok _ (Zi.2 rfl);have b:∀k,free (next M [] [own R e xs x]) w' k->free M w' k:=by rintro k ⟨W,X⟩;exact⟨W,λhm=>X (.inl ⟨hm,λh=>(by rw[Gp] at h;exact h)⟩)⟩
 have l:∀k,(own R e xs x).fp k->free M w' k:=by
  intro k I;refine⟨(c k I).2,λhm=>?_⟩;have:=D k hm;rcases (c k I).1 with h | h
  ·rw[Gp] at h;exact h
  ·omega
 have C:(tsl R xs).ok (free M w') w' x:=CF.own (x:=.const x) (Γ:=[]) (U:=[own R e xs x]) (R:=R) (e:=e) (xs:=xs) (v:=x) .k sm _ _ w' ⟨#[],[]⟩ b (λA hA=>by simp at hA;subst hA;exact⟨u,l⟩) (λp hp=>by simp at hp);refine⟨undef,v,O,S,Fz,?_⟩;simp only[Ji];exact K x _ _ _ C ((T x).keep b (λ_ _=>rfl) q)
def Uf {xs:List α}:∀x F w v,(tsl R xs).ok F w x->(tv x).ok F w v->(tsl R xs).ok F w v:=λx F w v h b=>by have:v=x:=b;rw[this];exact h
def gM {xs:List α}:∀x F w v,(tsl R xs).ok F w x->(ttup (tv x::Ts)).ok F w v->(ttup (tsl R xs::Ts)).ok F w v:=λx F w v h ⟨us,c,hc⟩=>by obtain⟨u,vs,rfl,hu,b⟩:=hc.inv;have:u=x:=hu;subst this;exact⟨_,c,.cons h b⟩
def gX {xs:List α} {T0:Ty}:∀x F w v,(tsl R xs).ok F w x->(ttup (T0::tv x::Ts)).ok F w v->(ttup (T0::tsl R xs::Ts)).ok F w v:=λx F w v h ⟨us,k,hc⟩=>by obtain⟨u,vs,rfl,hu,c⟩:=hc.inv;obtain⟨u2,l,rfl,f,b⟩:=c.inv;have:u2=x:=f;subst this;exact⟨_,k,.cons hu (.cons h b)⟩
inductive H8 (Γ:List (Nat×Ty)) (pl:Array (Nat×Nat)):List (Nat×Operand)->List Ty->List Ty->Prop where
 | nil (Ts:List Ty):H8 Γ pl [] Ts Ts
 | cons {i off:Nat} {α:Type} {R:Rep α} {u:α} {x:Operand} {ps:List (Nat×Operand)} {Ts Ts':List Ty} (hp:pl[i]?=some (off,R.n)) (h:Fct Γ x (R.ty u)) (hl:off+R.n<=Ts.length)
   (hs:H8 Γ pl ps (splice Ts off (R.cs u)) Ts'):H8 Γ pl ((i,x)::ps) Ts Ts'
def kY {A:Act} {ps:List (Nat×Operand)} (h:H8 Γ pl ps Ts Ts') (m:∀p∈Γ,(∃q∈ps,Operand.tmp p.1=q.2)->p.2.ok F w (get A p.1)):
  ∀cs:Array Value,QW Ts F w cs.toList->∃b,Instr.fill (pl[·]?) cs (ps.map λp=>(p.1,A.eval p.2))=some b/\QW Ts' F w b.toList:=by
 induction h with
 | nil=>intro cs hc;exact⟨cs,rfl,hc⟩
 | @cons i off α R u x ps Ts Ts' hp hx hl L D=>
  intro cs hc;have H:=hx F w A (λp hp f=>m p hp ⟨(i,x),sm,f⟩);have⟨k,_,C⟩:=Ej H;have I:cs.size=Ts.length:=by simpa using hc.1
  have l:(A.eval x).cells.toList.length=R.n:=by simpa using C
  have c:=Va (A.eval x).cells.toList 0 off cs (by rw[l];omega);simp only[Nat.add_zero] at c;simp only[Ys,Instr.fill,hp];rw[Zb (by simp[C];omega)];refine D (λp hp ⟨q,K,e⟩=>m p hp ⟨q,by simp[K],e⟩) _ ?_;rw[<-Array.foldl_toList,Array.toList_zipIdx,c];exact hc.splice k (by rw[R.len];exact hl)
def Cm {c:List Ty} (hu:P.underlying t=some (.struct fs)) (k:∀w,((fs.mapM λf=>do pure (f.offset,<-sizeOf f.type):Sem (Array (Nat×Nat)))).run P w=.ok pl w) (hz:(P.info? t).bind (·.zero)=some z) (h0:∀F w,QW c F w z.cells.toList) (hps:H8 Γ pl ps.toList c Ts'):OpJ P ⟨d,.build t ps,ty,pos,af,g⟩ Γ [] [] (λ_=>[]) (λ_=>tagg Ts'):=
 AZ λF w A D=>by
  have⟨b,hf,hc⟩:=kY (A:=A) (F:=F) (w:=w) hps (λp hp ⟨q,H,e⟩=>D p hp (by simp only[Op.operands,mem_toArray,ZR];exact⟨q,H,e.symm⟩)) z.cells (h0 F w);obtain⟨ti,l,m⟩:∃ti,P.info? t=some ti/\ti.zero=some z:=by
   cases h:P.info? t with
   | none=>simp[h] at hz
   | some ti=>exact⟨ti,rfl,by simpa[h] using hz⟩
  refine⟨.agg b,?_,b.toList,sm,hc⟩;have u:(zeroValue t).run P w=.ok z w:=by simp[zeroValue,typeInfo,l,m]
  have C:Instr.fill (λx=>pl[x]?) z.cells (ps.map λp=>(p.1,A.eval p.2)).toList=some b:=by simpa using hf
  simp only[execOp,Instr.build,Sem.run_bind,u,Zl,run_underlying hu,k w,C,Sem.run_pure]
def kZ {n:Nat} {us:List α} (hu:P.underlying t=some (.array n e)) (l:TOk P e R bytes z) {c:Value} (hz:(P.info? t).bind (·.zero)=some c) (f:c.cells.size=us.length * R.n) (hps:BU Γ R 0 ps.toList us):
  OpJ P ⟨d,.build t ps,ty,pos,af,g⟩ Γ [] [] (λ_=>[]) (λ_=>tagg (us.flatMap R.cs)):=
 AZ λF w A O=>by
  have⟨ti,m,_,S,_⟩:=l.info;have⟨vs,hc,_,b,hf,u⟩:=RG (F:=F) (w:=w) (A:=A) hps (λp hp ⟨q,W,e⟩=>O p hp (by simp only[Op.operands,mem_toArray,ZR];exact⟨q,W,e.symm⟩)) c.cells (by rw[f];simp);have C:vs.length=us.length * R.n:=by rw[hc.1,Aw]
  have k:b.toList=vs:=by rw[u];simp[splice,C,f]
  obtain⟨X,D,H⟩:∃ti,P.info? t=some ti/\ti.zero=some c:=by
   cases h:P.info? t with
   | none=>simp[h] at hz
   | some ti=>exact⟨ti,rfl,by simpa[h] using hz⟩
  refine⟨.agg b,?_,b.toList,sm,by rw[k];exact hc⟩;have I:(zeroValue t).run P w=.ok c w:=by simp[zeroValue,typeInfo,D,H]
  have K:(sizeOf e).run P w=.ok R.n w:=by simp[sizeOf,typeInfo,m,S]
  have L:Instr.fill (λi=>some (i * R.n,R.n)) c.cells (ps.map λp=>(p.1,A.eval p.2)).toList=some b:=by simpa using hf
  simp only[execOp,Instr.build,Sem.run_bind,I,Zl,run_underlying hu,K,L,Sem.run_pure]
def kQ {t:TypeId} (m:Nat) (ht:P.underlying t=some (.slice e)) (b:Option Addr) (n c:Nat) (w:World):(Op.equalIn (m+1) t (.slice b n c) (.slice none 0 0)).run P w=.ok b.isNone w:=by cases b<;>simp[Op.equalIn,run_underlying ht]
def RL {t:TypeId} (ht:P.underlying t=some (.slice e)) (b:Option Addr) (n c:Nat) (w:World):(Op.equal t (.slice b n c) (.slice none 0 0)).run P w=.ok b.isNone w:=kQ 9999 ht b n c w
end
def lA (R:Rep α):∀(xs:List α) (i:Nat) (x:α),i<xs.length->(xs.set i x).flatMap R.cs=splice (xs.flatMap R.cs) (i * R.n) (R.cs x):=by
 intro xs
 induction xs with
 | nil=>intro i x h;simp at h
 | cons y xs b=>
  intro i x h
  cases i with
  | zero=>simp only[set_cons_zero,flatMap_cons,splice,Nat.zero_mul,Nat.zero_add,take_zero,Yl];rw[R.len,<-R.len y,drop_left]
  | succ i=>
   simp only[set_cons_succ,flatMap_cons,splice];rw[b i x (sa h)];have e:(i+1) * R.n=(R.cs y).length+i * R.n:=by rw[R.len,Nat.add_mul];omega
   rw[e,take_length_add_append,YC,drop_length_add_append];simp[splice]
section
variable {g:Option (Nat×Bool)} {y:Operand} {e:TypeId}
def Vj {xs:List α} {i:Nat} {u:α} {u2:β} (hz:TOk P t R2 bytes z) (hp:∀F w A W n c,D4 Γ (⟨d,.store t x y,ty,pos,af,g⟩:Oper).op.operands F w A->v=.slice (some ⟨W,0,none⟩) n c->A.eval x=.pointer (some ⟨W,i * R.n+off,none⟩)) (hx:Fct Γ y (R2.ty u2)) (hi:i<xs.length) (hoff:off+R2.n<=R.n) (hu:R.cs u=splice (R.cs xs[i]) off (R2.cs u2)):
  OpJ P ⟨d,.store t x y,ty,pos,af,g⟩ Γ [] [own R e xs v] (λ_=>[own R e (xs.set i u) v]) (λ_=>tany):=by
 intro M w A hM _ X _ _ Y;have⟨ho,a1⟩:=X _ (Zi.2 rfl);have h:=Cr X;have Z:=hx.use oq Y;rcases CG ho with⟨_,hn⟩ | ⟨b,cap,cur,l,hb,h1,h2,h3,h4⟩
 ·rw[hn] at hi;simp at hi
 ·have I:=hp _ w A b _ _ Y l;have a2:i * R.n+R.n<=xs.length * R.n:=by
   have:(i+1) * R.n<=xs.length * R.n:=Nat.mul_le_mul_right _ hi;rw[Nat.add_mul] at this;omega
  have a0:xs.length * R.n<=cap * R.n:=Nat.mul_le_mul_right _ h1;have K:=RE (off:=i * R.n+off) hz Z hb om;have hr:(execOp A.eval (⟨d,.store t x y,ty,pos,af,g⟩:Oper)).run P w=.ok .skip (w.setRow b (splice cur.toList (i * R.n+off) (A.eval y).cells.toList).toArray):=by simp only[execOp,I,Sem.run_bind,K,Zl,Sem.run_pure]
  simp only[Does,hr];have f:∀k,AR [own R e xs v] k↔k=b:=by intro k;rw[AU,l,BB]
  refine⟨undef,Gs ((f b).2 rfl),BX (λk H=>?_) ?_,trivial⟩
  ·rw[l] at H;rw[BB.1 H];exact⟨.inl ((f b).2 rfl),by simpa using (Array.getElem?_eq_some_iff.1 hb).1⟩
  ·have⟨L,_,O⟩:=Ej Z;have a3:(A.eval y).cells.toList.length=R2.n:=by simpa using O
   have hl:(xs.set i u).length=xs.length:=by simp
   have p:v=.slice (some ⟨b,0,none⟩) (xs.set i u).length cap:=by rw[hl];exact l
   rw[p];apply FH (setRow_heap w b cur _ e _ hb) (by rw[hl];exact h1) h2 (by simp only[size_toArray];rw[Gr _ _ _ so];simpa using h3);rw[hl];have e1:(splice cur.toList (i * R.n+off) (A.eval y).cells.toList).take (xs.length * R.n)=splice (cur.toList.take (xs.length * R.n)) (i * R.n+off) (A.eval y).cells.toList:=by
    apply ext_getElem?;intro j;rw[getElem?_take,DM _ _ _ _ so,DM _ _ _ _ so,getElem?_take];by_cases m:j<xs.length * R.n
    ·rw[Zc m,Zc m]
    ·rw[Zb m,Zb m,Zb om]
   simp only;rw[e1];have e2:(xs.set i u).flatMap R.cs=splice (xs.flatMap R.cs) (i * R.n+off) (R2.cs u2):=by
    rw[lA R xs i u hi,hu];have a4:(xs.flatMap R.cs).length=xs.length * R.n:=Aw R xs;have q:(R2.cs u2).length=R2.n:=R2.len u2;have S:(R.cs xs[i]).length=R.n:=R.len _;have C:(splice (R.cs xs[i]) off (R2.cs u2)).length=R.n:=by rw[Gr _ _ _ om,S]
    apply ext_getElem?;intro j;rw[DM _ _ _ _ (by rw[C];omega),DM (xs.flatMap R.cs) (R2.cs u2) (i * R.n+off) j om,C,q];by_cases m:i * R.n<=j/\j<i * R.n+R.n
    ·rw[Zc m,DM _ _ _ _ om,q];by_cases D:off<=j - i * R.n/\j - i * R.n<off+R2.n
     ·rw[Zc D,Zc om];congr 1;omega
     ·rw[Zb D,Zb om];have:j=i * R.n+(j - i * R.n):=by omega
      rw[this,Fq R xs i _ xs[i] (Zd hi) om];congr 1;omega
    ·rw[Zb m,Zb om]
   rw[e2];refine (h4.splice L (by rw[Aw,R2.len];omega)).Xr ?_ ?_
   ·intro k H;rw[l] at h f;refine Cp sm h (λB hB j m=>?_) H;obtain rfl:=Zi.1 hB;rw[BB] at m;exact .inl ((f j).2 m)
   ·rintro k ⟨g1,g2⟩;exact setRow_other w b k _ (λe=>g2 (h k ((f k).2 e)))
def Db {xs b:List α} {u:α} (hz:TOk P t R bytes z) (hp:Fct Γ x (tv (AX v (i.toNat * R.n)))) (hx:Fct Γ y (R.ty u)) (h:setAt xs i u=some b):
  OpJ P ⟨d,.store t x y,ty,pos,af,g⟩ Γ [] [own R e xs v] (λ_=>[own R e b v]) (λ_=>tany):=by
 unfold setAt at h;split at h
 ·rename_i hc;obtain rfl:=Zn h;have hi:i.toNat<xs.length:=by omega
  refine Vj (off:=0) hz (λF w A l n c f k=>?_) hx hi om ?_
  ·rw[hp.val oq f,k];simp[AX,Aj]
  ·simp[splice,R.len]
 ·cases h
def Vk {xs f:List α} {b u:α} {u2:β} (hz:TOk P t R2 bytes z) (hp:Fct Γ x (tv (padd (AX v (i.toNat * R.n)) off))) (hx:Fct Γ y (R2.ty u2)) (h0:idx xs i=some b) (h:setAt xs i u=some f) (hoff:off+R2.n<=R.n) (hu:R.cs u=splice (R.cs b) off (R2.cs u2)):
  OpJ P ⟨d,.store t x y,ty,pos,af,g⟩ Γ [] [own R e xs v] (λ_=>[own R e f v]) (λ_=>tany):=by
 unfold setAt at h;split at h
 ·rename_i hc;obtain rfl:=Zn h;have hi:i.toNat<xs.length:=by omega
  have e0:xs[i.toNat]=b:=by unfold idx at h0;rw[Zc hc.1,Zd hi] at h0;exact Zn h0
  refine Vj (off:=off) hz (λF w A m n c k l=>?_) hx hi hoff (by rw[e0];exact hu);rw[hp.val oq k,l];simp[AX,padd,Aj]
 ·cases h
def lB {s:TypeId} {f m:Nat} {xs:List α} (hf:Qz P s f off) (hp:Fct Γ x (tv (AX v m))) (hne:xs≠[]):OpJ P ⟨d,.fieldAddr s x f,ty,pos,af,g⟩ Γ [own R e xs v] [] (λ_=>[]) (λ_=>tv (padd (AX v m) off)):=
 BY λM w a hU h=>by
  have k:=hp.val oq h;rcases CG (hU _ (Zi.2 rfl)) with⟨_,l⟩ | ⟨b,cap,cur,c,_⟩
  ·exact (hne l).elim
  ·subst c;exact⟨_,by simp only[execOp,k,AX,Aj,Sem.run_bind,NY hf,Zl,Sem.run_pure,padd],rfl⟩
def FD {xs:List α} {u:α} (hz:TOk P t R bytes z) (hp:Fct Γ x (tv (AX v (i.toNat * R.n)))) (h:idx xs i=some u):OpJ P ⟨d,.load t x,ty,pos,af,g⟩ Γ [own R e xs v] [] (λ_=>[]) (λ_=>R.ty u):=
 BY λM w a hU D=>by
  have H:=hp.val oq D;unfold idx at h;split at h
  ·rcases CG (hU _ (Zi.2 rfl)) with⟨_,I⟩ | ⟨b,cap,cur,k,hb,K,L,O,p⟩
   ·rw[I] at h;simp at h
   ·subst k;have hi:i.toNat<xs.length:=(Zf.1 h).1;have c:Row (xs.flatMap R.cs) (free M w) w b 0:=λj T q=>by
     have C:j<(cur.toList.take (xs.length * R.n)).length:=by rw[p.1];exact (Zf.1 q).1
     refine⟨(cur.toList.take (xs.length * R.n))[j],?_,p.2 j T _ q (Zd C)⟩;have l:j<cur.size:=by simp at C;omega
     simp[World.cell?,hb,l]
    have⟨v',f,m⟩:=F1 hz (c.elem h);refine⟨v',?_,m⟩;simp only[execOp,H,AX,Aj,Sem.run_bind,f,Zl,Sem.run_pure]
  ·cases h
def CC {xs:List α} {k:IntKind} {u:α} (ht:P.underlying t=some (.slice e)) (hz:TOk P e R bytes z) (hx:Fct Γ x (tv v)) (hi:Fct Γ y (tv (.int k i))) (h:idx xs i=some u):
  OpJ P ⟨d,.indexAddr t x y,ty,pos,af,g⟩ Γ [own R e' xs v] [] (λ_=>[]) (λ_=>tv (AX v (i.toNat * R.n))):=by
 unfold idx at h;split at h
 ·have:=(Zf.1 h).1;exact RD ht hz hx hi (by assumption) om
 ·cases h
def Vl {xs b:List α} {k:IntKind} {u:α} (ht:P.underlying t=some (.slice e)) (hz:TOk P e R bytes z) (hx:Fct Γ x (tv v)) (hi:Fct Γ y (tv (.int k i))) (h:setAt xs i u=some b):
  OpJ P ⟨d,.indexAddr t x y,ty,pos,af,g⟩ Γ [own R e' xs v] [] (λ_=>[]) (λ_=>tv (AX v (i.toNat * R.n))):=by
 unfold setAt at h;split at h
 ·rename_i hc;exact RD ht hz hx hi hc.1 hc.2
 ·cases h
end
def JM {a:Act} {σ ρ:Type} {c:Code} (body:σ->Option (σ⊕ρ)) (I:σ->Act->World->Prop) (out:ρ) (s0:σ) (h:Qr body s0=some out) (h0:I s0 a w) (b:∀s o a w (K:Act->World->Prop),I s a w->body s=some o->(∀r,o=.inr r->r=out)->(∀f a w,o=.inl f->I f a w->K a w)->c.wp P (Exit.then K Q) a w):(Code.loop c).wp P Q a w:=
 kV body I out s0 h h0 λs o a w k hb l=>b s o a w _ k hb l (λf _ _ m p=>⟨f,m,p⟩)
section
variable {g:Option (Nat×Bool)}
def QO {b:FuncId} {xs:List Operand} {T:Value->Ty} (hc:Qj P b) (c:FnOk P b Ts E N T) (ha:Args Γ [] xs Ts):
  OpJ P ⟨d,.call { callee:=.value (.func b),args:=xs.toArray,argTypes:=ts },ty,pos,af,g⟩ Γ [] E N T:=
 kS (caps:=[]) (Tc:=[]) hc (sa c) .fn ha
def CY {b:FuncId} {xs:List Operand} {T:Value->Ty} (U:List Atom) (hc:Qj P b) (c:FnOk P b Ts E N T) (ha:Args Γ U xs Ts) (f:∀x,DC (T x)) (h:∀x,∀A∈N x,Ek A):
  OpJ P ⟨d,.call { callee:=.value (.func b),args:=xs.toArray,argTypes:=ts },ty,pos,af,g⟩ Γ U E N T:=
 kT (caps:=[]) (Tc:=[]) U hc (sa c) (.of .fn) ha f h
def EY {x:Value}:∀A∈(λ_=>[]:Value->List Atom) x,Ek A:=λ_ h=>(by cases h)
def Hq (h:Ek A):∀B∈[A],Ek B:=λB b=>by obtain rfl:=Zi.1 b;exact h
end
def Qz.mk {s f:Nat} {fd:Field} {b:Nat} {z:Value} (hu:P.underlying s=some (.struct fs)) (hf:fs[f]?=some fd) (c:fd.offset=off) (hz:TOk P fd.type R b z) (h:R.n≠0):Qz P s f off:=
 have⟨i,hi,_,k,_⟩:=hz.info
 ⟨fs,fd,i,hu,hf,c,hi,by rw[k];exact h⟩
def nz_ne {b:Int} {u:Unit} (h:nz b=some u):b≠0:=by unfold nz at h;split at h<;>first | assumption | cases h
def rm_ok {n:Nat} {u:Unit} (h:rm n=some u):rm n=some ():=h
def RM {a b:Bool} (h:a=true) (k:b=true):(a&&b)=true:=by rw[h,k];rfl
def beqF {c:Bool} (h:c=false):(c==false)=true:=by rw[h];rfl
def beqT {c:Bool} (h:c=true):(c==true)=true:=by rw[h];rfl
def jn (k:α) (f:α->β):β:=f k
def JL {k:α} {f:α->Option β} {r:β} (h:jn k f=some r):∃b,b=k/\f b=some r:=⟨k,rfl,h⟩
def CZ (f:FuncId) (Tc:List Ty):Ty:=⟨λF w v=>∃caps,(tclo f caps Tc).ok F w v,λb c ⟨caps,h⟩=>⟨caps,(tclo f caps Tc).keep b c h⟩⟩
inductive Caps (Γ:List (Nat×Ty)):List Operand->List Ty->Prop where
 | nil:Caps Γ [] []
 | cons {x:Operand} {T:Ty} {xs:List Operand} {Ts:List Ty} (h:Fct Γ x T) (hs:Caps Γ xs Ts):Caps Γ (x::xs) (T::Ts)
def Caps.cells {xs:List Operand} {a:Act} (h:Caps Γ xs Ts) (b:∀p∈Γ,Operand.tmp p.1∈xs->p.2.ok F w (get a p.1)):QW Ts F w (xs.map a.eval):=by
 induction h with
 | nil=>exact .nil
 | @cons x T xs Ts h f c=>exact .cons (h F w a (λp hp e=>b p hp (by rw[e];simp))) (c (λp hp e=>b p hp (by simp[e])))
section
variable {g:Option (Nat×Bool)} {y:Operand} {e:TypeId}
def UD {b:FuncId} {xs:List Operand} (h:Caps Γ xs Tc):OpJ P ⟨d,.makeFunc (.func b) #[] xs.toArray,ty,pos,af,g⟩ Γ [] [] (λ_=>[]) (λ_=>CZ b Tc):=AZ λF w a c=>⟨.func (.func b) #[] (xs.map a.eval).toArray,by simp[execOp,Instr.makeFunc],xs.map a.eval,rfl,h.cells (λp hp hx=>c p hp (by simp[Op.operands,hx]))⟩
def tnil {α:Type} (xs:List α) (c:Bool):Ty:=⟨λ_ _ v=>∃b,v=.bool b/\((b !=c)=true->xs=[]),λ_ _ h=>h⟩
def op_eqNil' {xs:List α} {t2:TypeId} (ht:P.underlying t=some (.slice e)) (hx:Fct Γ x (tsl R xs)):OpJ P ⟨d,.binOp .eql t x (.const (.slice none 0 0)) t2,ty,pos,af,g⟩ Γ [] [] (λ_=>[]) (λ_=>tnil xs false):=
 AZ λF w a f=>by
  have⟨h,cap,k,_,l⟩:=hx.use oq f;refine⟨.bool h.isNone,?_,_,rfl,λhb=>?_⟩
  ·simp[execOp,k,H7,eqGuard,binOp,RL ht]
  ·cases c:xs with
   | nil=>rfl
   | cons u us=>have⟨b,off,ha,_⟩:=l (by rw[c];simp);rw[ha] at hb;simp at hb
def lC {n:Nat} {a:Act} {s:Nat} {xs:List α} {f h:Code} (i:Nat) (c:St M w0 n Γ As a w) (hi:Γ[i]?=some (s,tnil xs false)) (ht:xs=[]->f.wp P Q a w) (hf:h.wp P Q a w):(Code.cond (.tmp s) f h).wp P Q a w:=by
 obtain⟨b,k,hb⟩:∃b,a.eval (.tmp s)=.bool b/\((b !=false)=true->xs=[]):=c.Xp (s,tnil xs false) (Zo hi)
 cases b with
 | true=>exact wp_cond_true k (ht (hb rfl))
 | false=>exact wp_cond_false k hf
end
def idx_ne {u:α} (h:idx xs i=some u):xs≠[]:=by
 unfold idx at h;split at h
 ·intro b;rw[b] at h;simp at h
 ·cases h
def tvs (x:Value):Ty:=⟨λ_ _ v=>v=x/\x.oneCell'=true,λ_ _ h=>h⟩
@[reducible] def rVal : Rep Value := ⟨λx => [tvs x],1,false,λ_ => rfl,λx T h F w v b => by simp at h; subst h; obtain ⟨c,f⟩ := b; rw [c]; exact f,λ_ => rfl⟩
def nilV:Value:=.slice none 0 0
def usAt (us:List Value) (i:Int):Value:=us.getD i.toNat undef
def rows (R:Rep α) (e:TypeId) (xss:List (List α)) (us:List Value):Atom:=
 ⟨λk=>∃u∈us,u.ownBlock=some k,
  λF w=>us.length=xss.length/\(∀(i:Nat) xs u,xss[i]?=some xs->us[i]?=some u->(own R e xs u).ok F w)/\us.Pairwise (λ(u v:Value)=>∀k:Nat,u.ownBlock=some k->¬v.ownBlock=some k),
  λb c hf ⟨f,h,l⟩=>⟨f,λi xs u hx hu=>Atom.keep _ b c (λk m=>hf k ⟨u,Zo hu,m⟩) (h i xs u hx hu),l⟩⟩
structure Gt (A A' B B':Atom):Prop where
 ok:∀F w,B.ok F w->A.ok F w
 sub:∀k,A.fp k->B.fp k
 fpA:∀k,A'.fp k↔A.fp k
 fpB:∀k,B'.fp k↔B.fp k
 back:∀{F F':Blk} {w w':World},B.ok F w->(∀k,F k->F' k)->(∀k,F k->w'.heap[k]?=w.heap[k]?)->(∀k,B.fp k->¬A.fp k->w'.heap[k]?=w.heap[k]?)->A'.ok F' w'->B'.ok F' w'
section
variable {o:Oper} {T:Value->Ty}
def OpJ.focus {A' u:Atom} (hf:Gt A A' B u) (h:OpJ P o Γ U [A] (λ_=>[A']) T):OpJ P o Γ U [B] (λ_=>[u]) T:=by
 intro M w a H hU X _ I Y;have⟨S,c⟩:=X B (Zi.2 rfl);have hA:DL M [A] w:=λC l=>by obtain rfl:=Zi.1 l;exact⟨hf.ok _ _ S,λk b=>c k (hf.sub k b)⟩
 refine (h M w a H hU hA (pairwise_singleton _ _) (λC l D Z k b K=>?_) Y).mono ?_
 ·obtain rfl:=Zi.1 Z;exact I C l B (Zi.2 rfl) k b (hf.sub k K)
 ·rintro v w' ⟨x,m,hm,ht⟩;have f:∀k,free (next M [A] [A']) w' k->free (next M [B] [u]) w' k:=by
   rintro k ⟨h1,W⟩;refine⟨h1,?_⟩;have p:M k->False:=λb=>by
    by_cases hA:A.fp k
    ·exact W (.inr (AU.2 ((hf.fpA k).2 hA)))
    ·exact W (.inl ⟨b,λh=>hA (AU.1 h)⟩)
   rintro (⟨b,_⟩ | b)
   ·exact p b
   ·exact p (c k ((hf.fpB k).1 (AU.1 b)))
  refine⟨x,m.mono (λk b=>AU.2 (hf.sub k (AU.1 b))),BX (λk b=>?_) ?_,(T x).keep f (λ_ _=>rfl) ht⟩
  ·have q:=(hf.fpB k).1 b;exact⟨.inl (AU.2 q),ZP (H k (c k q)) m.size⟩
  ·have L:=hm.ok A' (Zi.2 rfl);refine hf.back S (λk b=>?_) (λk b=>m.same k b.1 (λh=>?_)) (λk b hn=>m.same k (H k (c k b)) (λh=>hn (AU.1 h))) (A'.keep f (λ_ _=>rfl) (λ_ _=>rfl) L)
   ·refine Cp m.size (λj O=>c j (AU.1 O)) (λC l j O=>?_) b;obtain rfl:=Zi.1 l;exact .inl (AU.2 ((hf.fpB j).1 O))
   ·exact b.2 (c k (hf.sub k (AU.1 h)))
def OpJ.Xt (p:∀F w,B.ok F w->A.ok F w) (b:∀k,A.fp k->B.fp k) (h:OpJ P o Γ (A::U) E N T):OpJ P o Γ (B::U) E N T:=by
 intro M w a I hU K q f L;have⟨O,u⟩:=hU B (Zs ..);refine h M w a I (λC c=>?_) K q (λC c D H k m l=>?_) L
 ·rcases Zp.1 c with rfl | c
  ·exact⟨p _ _ O,λk m=>u k (b k m)⟩
  ·exact hU C (ZE _ c)
 ·rcases Zp.1 c with rfl | c
  ·exact f B (Zs ..) D H k (b k m) l
  ·exact f C (ZE _ c) D H k m l
def OpJ.Xq {f:List Atom} (k:∀A∈U,A∈f) (h:OpJ P o Γ U E N T):OpJ P o Γ f E N T:=λM w a l hU m b c p=>h M w a l (λA hA=>hU A (k A hA)) m b (λA hA=>c A (k A hA)) p
def OpJ.say {Q:Prop} (hA:A∈U) (f:∀F w,A.ok F w->Q) (h:Q->OpJ P o Γ U E N T):OpJ P o Γ U E N T:=λM w a k hU l b c m=>h (f _ _ (hU A hA).1) M w a k hU l b c m
end
section
variable {e:TypeId}
def idx_lt' {xs:List β} {x:β} (h:idx xs i=some x):0<=i/\i.toNat<xs.length/\xs[i.toNat]?=some x:=by
 unfold idx at h;split at h
 ·exact⟨by assumption,(Zf.1 h).1,h⟩
 ·cases h
def RN {n:Nat} (hl:us.length=n) (hi:i.toNat<n):us[i.toNat]?=some (usAt us i):=by unfold usAt;rw[Zg,Zd om];rfl
def Jk {xs:List α} (h:idx xss i=some xs):∀F w,(rows R e xss us).ok F w->(own R e xs (usAt us i)).ok F w:=by intro F w ⟨b,c,_⟩;have⟨_,f,k⟩:=idx_lt' h;exact c _ _ _ k (RN b f)
def Jl {xs:List α}:∀k,(own R e xs (usAt us i)).fp k->(rows R e xss us).fp k:=by
 intro k c;have b:(usAt us i).ownBlock=some k:=c;refine⟨usAt us i,?_,b⟩;unfold usAt at b ⊢;rw[Zg] at b ⊢
 cases hu:us[i.toNat]? with
 | none=>rw[hu] at b;simp[undef,Value.ownBlock] at b
 | some u=>exact Zo hu
def lD {xs I:List α} {l:List (List α)} (h:idx xss i=some xs) (K:setAt xss i I=some l):Gt (own R e xs (usAt us i)) (own R e I (usAt us i)) (rows R e xss us) (rows R e l us):=by
 have⟨h0,p,hx⟩:=idx_lt' h;have c:l=xss.set i.toNat I:=by unfold setAt at K;rw[Zc ⟨h0,om⟩] at K;exact (Zn K).symm
 refine⟨Jk h,Jl,λk=>Iff.rfl,λk=>Iff.rfl,?_⟩;rintro F F' w w' ⟨W,h2,H⟩ hF hh hn L;have hu:=RN (us:=us) (i:=i) W p;refine⟨by rw[c];simpa using W,λj zs u q b=>?_,H⟩;rw[c,getElem?_set] at q;by_cases m:i.toNat=j
 ·subst m;rw[Zc rfl,Zc p] at q;obtain rfl:=Zn q;rw[hu] at b;obtain rfl:=Zn b;exact L
 ·rw[Zb m] at q;refine Atom.keep _ hF hh (λk X=>hn k ⟨u,Zo b,X⟩ (λO=>?_)) (h2 j zs u q b);have C:u.ownBlock=some k:=X;have f:(usAt us i).ownBlock=some k:=O;rw[pairwise_iff_getElem] at H;have⟨Y,e1⟩:=Zf.1 hu;have⟨Z,e2⟩:=Zf.1 b;rcases Nat.lt_trichotomy i.toNat j with D | he | S
  ·exact H _ _ Y Z D k (by rw[e1];exact f) (by rw[e2];exact C)
  ·exact m he
  ·exact H _ _ Z Y S k (by rw[e2];exact C) (by rw[e1];exact f)
def Nc (h:(rows R e xss us).ok F w):us.length=xss.length:=h.1
end
section
variable {g:Option (Nat×Bool)} {y:Operand} {e e1 e2:TypeId}
def Jm {o:Oper} {T:Value->Ty} (h:OpJ P o Γ U E N T) (f:∀x F w v,(T x).ok F w v->(T' x).ok F w v):OpJ P o Γ U E N T':=λM w a k hU l b c m=>(h M w a k hU l b c m).mono λ_ _ ⟨x,p,q,u⟩=>⟨x,p,q,f x _ _ _ u⟩
def NB (ht:P.underlying t=some (.slice e)) (hx:Fct Γ x (tv v)):OpJ P ⟨d,.call { callee:=.builtin .len,args:=#[x],argTypes:=#[t] },ty,pos,af,g⟩ Γ [own rVal e1 us v,rows R e2 xss us] [] (λ_=>[]) (λ_=>tv (.int .i64 xss.length)):=.say (A:=rows R e2 xss us) sm (λ_ _ h=>Nc h) λhl=>hl▸(Jb (R:=rVal) (e':=e1) (xs:=us) ht hx).Xq (λA hA=>by simp at hA;simp[hA])
def Fw {k:IntKind} {xs:List α} (ht:P.underlying t=some (.slice e)) (hz:TOk P e rVal bytes z) (hx:Fct Γ x (tv v)) (hi:Fct Γ y (tv (.int k i))) (h:idx xss i=some xs):
  OpJ P ⟨d,.indexAddr t x y,ty,pos,af,g⟩ Γ [own rVal e1 us v,rows R e2 xss us] [] (λ_=>[]) (λ_=>tv (AX v (i.toNat * rVal.n))):=
 .say (A:=rows R e2 xss us) sm (λ_ _ h=>Nc h) λhl=>by have⟨h0,b,_⟩:=idx_lt' h;exact (RD (R:=rVal) (e':=e1) (xs:=us) ht hz hx hi h0 om).Xq (λA hA=>by simp at hA;simp[hA])
def gK {k:IntKind} {xs:List α} {b:List (List α)} (ht:P.underlying t=some (.slice e)) (hz:TOk P e rVal bytes z) (hx:Fct Γ x (tv v)) (hi:Fct Γ y (tv (.int k i))) (h:setAt xss i xs=some b):
  OpJ P ⟨d,.indexAddr t x y,ty,pos,af,g⟩ Γ [own rVal e1 us v,rows R e2 xss us] [] (λ_=>[]) (λ_=>tv (AX v (i.toNat * rVal.n))):=by
 unfold setAt at h;split at h
 ·rename_i hc;exact Fw (xs:=xss[i.toNat]' om) ht hz hx hi (by unfold idx;rw[Zc hc.1,Zd om])
 ·cases h
def Gj {xs:List α} (hz:TOk P t rVal bytes z) (hp:Fct Γ x (tv (AX v (i.toNat * rVal.n)))) (h:idx xss i=some xs):OpJ P ⟨d,.load t x,ty,pos,af,g⟩ Γ [own rVal e1 us v,rows R e2 xss us] [] (λ_=>[]) (λ_=>tv (usAt us i)):=
 .say (A:=rows R e2 xss us) sm (λ_ _ h=>Nc h) λhl=>by
  have⟨h0,b,_⟩:=idx_lt' h;have hi:idx us i=some (usAt us i):=by unfold idx;rw[Zc h0];exact RN hl b
  exact Jm ((FD (R:=rVal) (e:=e1) hz hp hi).Xq (λA hA=>by simp at hA;simp[hA])) (λ_ _ _ _ h=>h.1)
def lE {b:List Value} {u:Value} (hz:TOk P t rVal bytes z) (hp:Fct Γ x (tv (AX v (i.toNat * rVal.n)))) (hx:Fct Γ y (tv u)) (hu:u.oneCell'=true) (h:setAt us i u=some b):
  OpJ P ⟨d,.store t x y,ty,pos,af,g⟩ Γ [] [own rVal e1 us v] (λ_=>[own rVal e1 b v]) (λ_=>tany):=
 Db (R:=rVal) hz hp (hx.Xo λ_ _ _ h=>⟨h,hu⟩) h
def JW {k:IntKind} {xs:List α} {u:α} (ht:P.underlying t=some (.slice e)) (hz:TOk P e R bytes z) (hx:Fct Γ x (tv (usAt us i))) (b:Fct Γ y (tv (.int k j))) (h:idx xss i=some xs) (hu:idx xs j=some u):
  OpJ P ⟨d,.indexAddr t x y,ty,pos,af,g⟩ Γ [rows R e2 xss us] [] (λ_=>[]) (λ_=>tv (AX (usAt us i) (j.toNat * R.n))):=
 .Xt (Jk h) Jl (CC ht hz hx b hu)
def Pv {k:IntKind} {xs b:List α} {u:α} (ht:P.underlying t=some (.slice e)) (hz:TOk P e R bytes z) (hx:Fct Γ x (tv (usAt us i))) (c:Fct Γ y (tv (.int k j))) (h:idx xss i=some xs) (hu:setAt xs j u=some b):
  OpJ P ⟨d,.indexAddr t x y,ty,pos,af,g⟩ Γ [rows R e2 xss us] [] (λ_=>[]) (λ_=>tv (AX (usAt us i) (j.toNat * R.n))):=
 .Xt (Jk h) Jl (Vl ht hz hx c hu)
def JX {xs:List α} {u:α} (hz:TOk P t R bytes z) (hp:Fct Γ x (tv (AX (usAt us i) (j.toNat * R.n)))) (h:idx xss i=some xs) (hu:idx xs j=some u):OpJ P ⟨d,.load t x,ty,pos,af,g⟩ Γ [rows R e2 xss us] [] (λ_=>[]) (λ_=>R.ty u):=.Xt (Jk h) Jl (FD hz hp hu)
def Pw {xs c:List α} {b:List (List α)} {u:α} (hz:TOk P t R bytes z) (hp:Fct Γ x (tv (AX (usAt us i) (j.toNat * R.n)))) (hx:Fct Γ y (R.ty u)) (h:idx xss i=some xs) (hu:setAt xs j u=some c) (f:setAt xss i c=some b):
  OpJ P ⟨d,.store t x y,ty,pos,af,g⟩ Γ [] [rows R e2 xss us] (λ_=>[rows R e2 b us]) (λ_=>tany):=
 .focus (lD h f) (Db hz hp hx hu)
end
section
variable {n:Nat}
def EQ {R:Rep α} {e:TypeId} {xs:List α} {w:World} (h:(own R e xs v).ok F w):v.oneCell'=true:=by rcases CG h with⟨c,_⟩ | ⟨b,cap,cur,c,_⟩<;>rw[c]<;>rfl
def Jn {R:Rep α} {e:TypeId} {w:World}:(own R e ([]:List α) nilV).ok F w:=⟨[],World.ownsRow_nil _ _ _ _,rfl,λj T u b=>by simp at b⟩
def St.rows0 (R:Rep α) (e:TypeId) (m:Nat) (h:St M w0 n Γ As a w):St M w0 n Γ (rows R e (replicate m ([]:List α)) (replicate m nilV)::As) a w:=by
 have c:∀k,¬(rows R e (replicate m ([]:List α)) (replicate m nilV)).fp k:=by rintro k ⟨u,hu,b⟩;obtain⟨_,rfl⟩:=mem_replicate.1 hu;simp[nilV,Value.ownBlock] at b
 have hf:∀k,fps (rows R e (replicate m ([]:List α)) (replicate m nilV)::As) k->fps As k:=by
  rintro k ⟨A,hA,b⟩;rcases Zp.1 hA with rfl | hA
  ·exact (c k b).elim
  ·exact⟨A,hA,b⟩
 refine⟨h.size,h.defers,h.grow,h.m0,?_,?_,?_,λp hp=>p.2.keep (BC hf) (λ_ _=>rfl) (h.Xp p hp)⟩
 ·intro A hA;rcases Zp.1 hA with rfl | hA
  ·refine⟨sm,λi xs u hx hu=>?_,?_⟩
   ·obtain⟨_,rfl⟩:=mem_replicate.1 (Zo hx);obtain⟨_,rfl⟩:=mem_replicate.1 (Zo hu);exact Jn
   ·refine Pairwise.imp_of_mem (R:=λ_ _=>True) (λ{u v} hu _ _ k b=>?_) (pairwise_of_forall (λ_ _=>trivial));obtain⟨_,rfl⟩:=mem_replicate.1 hu;simp[nilV,Value.ownBlock] at b
  ·exact A.keep (BC hf) (λ_ _=>rfl) (λ_ _=>rfl) (h.own A hA)
 ·intro A hA k b;rcases Zp.1 hA with rfl | hA
  ·exact (c k b).elim
  ·exact h.fresh A hA k b
 ·exact pairwise_cons.2 ⟨λB _ k b=>(c k b).elim,h.apart⟩
def St.merge {C:Atom} (h:St M w0 n Γ (A::B::As) a w) (c:∀k,C.fp k->A.fp k\/B.fp k) (u:∀F w,A.ok F w->B.ok F w->(∀k,A.fp k->¬B.fp k)->C.ok F w):St M w0 n Γ (C::As) a w:=by
 have f:=h.apart;unfold BA at f;rw[pairwise_cons,pairwise_cons] at f;have⟨H,I,K⟩:=f;have hf:∀k,fps (C::As) k->fps (A::B::As) k:=by
  rintro k ⟨D,b,l⟩;rcases Zp.1 b with rfl | b
  ·rcases c k l with h | h
   ·exact⟨A,sm,h⟩
   ·exact⟨B,sm,h⟩
  ·exact⟨D,by simp[b],l⟩
 refine⟨h.size,h.defers,h.grow,h.m0,?_,?_,?_,λp hp=>p.2.keep (BC hf) (λ_ _=>rfl) (h.Xp p hp)⟩
 ·intro D b;rcases Zp.1 b with rfl | b
  ·exact u _ _ (A.keep (BC hf) (λ_ _=>rfl) (λ_ _=>rfl) (h.own A sm)) (B.keep (BC hf) (λ_ _=>rfl) (λ_ _=>rfl) (h.own B sm)) (H B sm)
  ·exact D.keep (BC hf) (λ_ _=>rfl) (λ_ _=>rfl) (h.own D (by simp[b]))
 ·intro D b k l;rcases Zp.1 b with rfl | b
  ·rcases c k l with m | m
   ·exact h.fresh A sm k m
   ·exact h.fresh B sm k m
  ·exact h.fresh D (by simp[b]) k l
 ·refine pairwise_cons.2 ⟨λD b k l q=>?_,K⟩;rcases c k l with m | m
  ·exact H D (by simp[b]) k m q
  ·exact I D b k m q
def lF {R:Rep α} {e:TypeId} {xs:List α} {u:Value} {xss h:List (List α)} {w:World} (H:setAt xss i xs=some h) (hA:(own R e xs u).ok F w) (S:(rows R e xss us).ok F w) (L:∀k,(own R e xs u).fp k->¬(rows R e xss us).fp k):(rows R e h (us.set i.toNat u)).ok F w:=by
 have⟨W,X,O⟩:=S;unfold setAt at H;split at H
 ·rename_i hc;obtain rfl:=Zn H;have hi:i.toNat<xss.length:=by omega
  refine⟨by simpa using W,λj zs Y l c=>?_,?_⟩
  ·rw[getElem?_set] at l c;by_cases m:i.toNat=j
   ·rw[Zc m,Zc om] at l c;obtain rfl:=Zn l;obtain rfl:=Zn c;exact hA
   ·rw[Zb m] at l c;exact X j zs Y l c
  ·rw[pairwise_iff_getElem] at O ⊢;intro p q hp I K k f b;rw[getElem_set] at f b;simp only[ZK] at hp I;by_cases C:i.toNat=p
   ·rw[Zc C] at f;rw[Zb om] at b;exact L k f ⟨_,Zr I,b⟩
   ·rw[Zb C] at f;by_cases D:i.toNat=q
    ·rw[Zc D] at b;exact L k b ⟨_,Zr hp,f⟩
    ·rw[Zb D] at b;exact O p q hp I K k f b
 ·cases H
def lG {l:List Value} {i:Nat} {u:Value} (h:v∈l.set i u):v=u\/v∈l:=by
 rcases mem_or_eq_of_mem_set h with h | h
 ·exact .inr h
 ·exact .inl h
def St.put {R:Rep α} {e:TypeId} {xs:List α} {u:Value} {xss b:List (List α)} (i:Int) (l:setAt xss i xs=some b) (h:St M w0 n Γ (Sim.own R e xs u::rows R e xss us::As) a w):St M w0 n Γ (rows R e b (us.set i.toNat u)::As) a w:=
 h.merge (λk ⟨v,c,f⟩=>by
  rcases lG c with rfl | c
  ·exact .inl f
  ·exact .inr ⟨v,c,f⟩) (λ_ _ hA m p=>lF l hA m p)
def lH {R:Rep α} {e1 e2:TypeId} {xss:List (List α)} {w:World} (O:∀k,F k->F' k) (S:(own rVal e1 us v).ok F w) (W:(rows R e2 xss us).ok F w) (f1:∀k,(own rVal e1 us v).fp k->F' k) (f2:∀k,(rows R e2 xss us).fp k->F' k):(tsl (rSl R) xss).ok F' w v:=by
 have⟨hl,X,_⟩:=W;rcases CG S with⟨u,hx⟩ | ⟨b,cap,cur,u,hb,Z,c2,c3,K⟩
 ·have:xss=[]:=ZW (by rw[<-hl,hx];rfl);subst this;exact⟨none,0,u,Zq _,λh=>(h rfl).elim⟩
 ·refine⟨_,cap,by rw[u,hl],om,λ_=>⟨b,0,rfl,f1 b (by rw[u];exact BB.2 rfl),λj T C=>?_⟩⟩;have L:j<xss.length:=by
   have:=(Zf.1 C).1;rw[Aw] at this;simpa using this
  have D:T=tsl R xss[j]:=by have:=Fq (rSl R) xss j 0 xss[j] (Zd L) Nat.one_pos;simp only[Nat.mul_one,Nat.add_zero] at this;rw[this] at C;simpa using C.symm
  subst D;have c:j<us.length:=by omega
  have f:j<(cur.toList.take (us.length * 1)).length:=by rw[K.1,Aw];simpa using c
  have H:(us.flatMap rVal.cs)[j]?=some (tvs us[j]):=by have:=Fq rVal us j 0 us[j] (Zd c) Nat.one_pos;simp only[Nat.mul_one,Nat.add_zero] at this;rw[this];rfl
  have l:=K.2 j _ _ H (Zd f);have⟨m,_⟩:=l;have I:j<cur.size:=by simp at f;omega
  refine⟨us[j],?_,?_⟩
  ·rw[<-m];simp[World.cell?,hb,I]
  ·have q:=X j xss[j] us[j] (Zd L) (Zd c);exact CF.own (x:=.const us[j]) (Γ:=[]) (U:=[Sim.own R e2 xss[j] us[j]]) (R:=R) (e:=e2) (xs:=xss[j]) (v:=us[j]) .k sm F F' w ⟨#[],[]⟩ O (λA hA=>by simp at hA;subst hA;exact⟨q,λk Y=>f2 k ⟨us[j],Zr c,Y⟩⟩) (λp hp=>by simp at hp)
end

/- Package core: whether limits can be kept, as the program and the model look for it. No condition. -/
import Derived.Test.YtlajingmjmnfgaaGreatDoorBdQ
import Derived.Test.YtlajingmjmnfgaaGreatDoorCtA
import Derived.Test.YtlajingmjmnfgaaGreatDoorCoA
set_option linter.all false
open List Go.IntKind
namespace Go.Proofs.YtlajingmjmnfgaaGreatDoor
open Go.Sim
def QhQ {α σ:Type} (step:α→σ→Option σ):List α→σ→Option σ
 | [],s=>some s
 | a::l,s=>(step a s).bind (QhQ step l)
def QkR {α σ:Type} (step:α→σ→Option σ) (a:α) (l:List α) (s:σ):QhQ step (a::l) s=(step a s).bind (QhQ step l):=rfl
def Qxl {α σ ρ:Type} (l:List α) (step:α→σ→Option σ) (I:σ→Prop) (bad:ρ) (hI:∀a∈l,∀s s',I s→step a s=some s'→I s') {body:Int×σ→Option ((Int×σ)⊕(σ⊕ρ))}
  (hb:∀k (h:k<l.length) s,I s→body ((k:Int),s)=some (match step l[k] s with | some s'=>.inl (((k+1:Nat):Int),s') | none=>.inr (.inr bad))) (he:∀s,body ((l.length:Int),s)=some (.inr (.inl s))) {s:σ} (hs:I s):
  Ql body ((0:Int),s)=some (match QhQ step l s with | some s'=>.inl s' | none=>.inr bad):=by
 have key:∀m k s,k+m=l.length→I s→Ql body ((k:Int),s)=some (match QhQ step (l.drop k) s with | some s'=>.inl s' | none=>.inr bad):=by
  intro m
  induction m with
  | zero=>
   intro k s hk hs;have:k=l.length:=by omega
   subst this;rw[Qas,he,drop_length];rfl
  | succ m ih=>
   intro k s hk hs;have hkl:k<l.length:=by omega
   rw[Qas,hb k hkl s hs,Yk hkl];unfold QhQ
   cases h:step l[k] s with
   | none=>rfl
   | some s'=>simp only[Za];exact ih (k+1) s' (by omega) (hI _ (Zn hkl) s s' hs h)
 have:=key l.length 0 s (by omega) hs;simpa using this
def Qzr {α σ:Type} (l:List α) (step:α→σ→σ) (I:σ→Prop) (hI:∀a∈l,∀s,I s→I (step a s)) {body:Int×σ→Option ((Int×σ)⊕σ)}
  (hb:∀k (h:k<l.length) s,I s→body ((k:Int),s)=some (.inl (((k+1:Nat):Int),step l[k] s))) (he:∀s,body ((l.length:Int),s)=some (.inr s)) {s:σ} (hs:I s):
  Ql body ((0:Int),s)=some (l.foldl (fun s a=>step a s) s):=by
 have key:∀m k s,k+m=l.length→I s→Ql body ((k:Int),s)=some ((l.drop k).foldl (fun s a=>step a s) s):=by
  intro m
  induction m with
  | zero=>
   intro k s hk hs;have:k=l.length:=by omega
   subst this;rw[Qas,he,drop_length];rfl
  | succ m ih=>
   intro k s hk hs;have hkl:k<l.length:=by omega
   rw[Qas,hb k hkl s hs,Yk hkl,foldl_cons];exact ih (k+1) _ (by omega) (hI _ (Zn hkl) s hs)
 have:=key l.length 0 s (by omega) hs;simpa using this
def sel {α:Type} (l:List α) (p:Nat→Bool) (d:α):List α:=((range l.length).filter p).map fun i=>l.getD i d
def QtI {α:Type} {l:List α} {p:Nat→Bool} {d a:α}:a∈sel l p d↔∃i,l[i]?=some a∧p i=true:=by
 unfold sel;simp only[ZC,Yn,ZH];constructor
 ·rintro ⟨i,⟨h1,h2⟩,rfl⟩;exact⟨i,by rw[Zh,Zb h1];rfl,h2⟩
 ·rintro ⟨i,h1,h2⟩;obtain⟨hi,e⟩:=Zf.1 h1;exact⟨i,⟨hi,h2⟩,by rw[Zh,h1];rfl⟩
def QlS {α σ:Type} (step:α→σ→Option σ) (f:Nat→α) (p:Nat→Bool):∀(l:List Nat) (s:σ),QhQ (fun i s=>if p i=true then step (f i) s else some s) l s=QhQ step ((l.filter p).map f) s
 | [],s=>rfl
 | i::l,s=>by
  rw[filter_cons,QkR]
  cases hp:p i with
  | true=>
   rw[Zc rfl,Zc rfl,Yi,QkR]
   cases step (f i) s with
   | none=>rfl
   | some s'=>exact QlS step f p l s'
  | false=>rw[Zd (by simp),Zd (by simp)];exact QlS step f p l s
def upc (s:List Int×Bool) (k m:Int):List Int×Bool:=if nth s.1 k<m then (s.1.set k.toNat m,true) else s
def Qxm (v:List Int) (c:Bool) {k m:Int} (k0:0≤k) (k1:k<v.length):upc (v,c) k m=(up1 v k m,c||decide (up1 v k m≠v)):=by
 have h:=Qm5 (m:=m) k0 k1;by_cases hlt:nth v k<m
 ·have h1:up1 v k m≠v:=fun e=>by have:=h.1 e;omega
  have h2:up1 v k m=v.set k.toNat m:=by unfold up1;rw[Zc hlt]
  rw[decide_eq_true h1,Bool.or_true,h2];unfold upc;rw[Zc hlt]
 ·have h1:up1 v k m=v:=h.2 (by omega);rw[h1];unfold upc;rw[Zd hlt];simp
def Qmt (y:Qe) (s:List Int×Bool):Option (List Int×Bool):=if rsB y s.1=true then some (upc s (rsK y) (rsN y s.1)) else none
def QrO {n:Nat}:∀(l:List Qe) (v:List Int) (c:Bool),(∀y∈l,VL y n)→v.length=n→QhQ Qmt l (v,c)=(rndL l v).map fun w=>(w,c||decide (w≠v))
 | [],v,c,_,_=>by simp[QhQ,rndL]
 | y::l,v,c,hl,hv=>by
  have hk:=QjW (hl y (Zk ..));have hk2:rsK y<v.length:=by rw[hv];exact hk.2
  have e0:Qmt y (v,c)=if rsB y v=true then some (upc (v,c) (rsK y) (rsN y v)) else none:=rfl;rw[QkR,e0];unfold rndL
  cases hb:rsB y v with
  | false=>rfl
  | true=>
   rw[Zc rfl,Zc rfl,Za,Qxm v c hk.1 hk2,QrO l _ _ (fun z hz=>hl z (Zl _ hz)) ((Qdf ..).trans hv)]
   cases hr:rndL l (up1 v (rsK y) (rsN y v)) with
   | none=>rfl
   | some w=>
    have h1:=QhY (m:=rsN y v) hk.1 hk2;have h2:=QjX l _ w (fun z hz=>hl z (Zl _ hz)) ((Qdf ..).trans hv) hr;simp only[ZY];congr 2;rw[Bool.or_assoc];congr 1;rw[ZZ];simp only[YB,decide_not,Zz,Ym,ZI];constructor
    ·rintro (h | h) e
     ·exact h (h2.anti (by rw[e];exact h1) |>.trans e)
     ·exact h (by rw[e];exact (h1.anti (by rw[e] at h2;exact h2)))
    ·intro h;by_cases e:up1 v (rsK y) (rsN y v)=v
     ·exact .inr fun e2=>h (e2.trans e)
     ·exact .inl e
def Qoc (r:Int×Int) (s:List Int×Bool):List Int×Bool:=upc s r.2 (imin 1 (nth s.1 r.1))
def QrP {n:Nat}:∀(l:List (Int×Int)) (v:List Int) (c:Bool),(∀r∈l,0≤r.2∧r.2<n)→v.length=n→l.foldl (fun s r=>Qoc r s) (v,c)=(rndR l v,c||decide (rndR l v≠v))
 | [],v,c,_,_=>by simp[rndR]
 | r::l,v,c,hl,hv=>by
  have hk:=hl r (Zk ..);have hk2:r.2<v.length:=by rw[hv];exact hk.2
  rw[foldl_cons];unfold rndR;have e0:Qoc r (v,c)=(up1 v r.2 (imin 1 (nth v r.1)),c||decide (up1 v r.2 (imin 1 (nth v r.1))≠v)):=Qxm v c hk.1 hk2;rw[e0,QrP l _ _ (fun z hz=>hl z (Zl _ hz)) ((Qdf ..).trans hv)];have h1:=QhY (m:=imin 1 (nth v r.1)) hk.1 hk2;have h2:=QjY l (up1 v r.2 (imin 1 (nth v r.1))) (fun z hz=>hl z (Zl _ hz)) ((Qdf ..).trans hv);congr 1;rw[Bool.or_assoc];congr 1;rw[ZZ];simp only[YB,decide_not,Zz,Ym,ZI];constructor
  ·rintro (h | h) e
   ·exact h (h2.anti (by rw[e];exact h1) |>.trans e)
   ·exact h (by rw[e];exact (h1.anti (by rw[e] at h2;exact h2)))
  ·intro h;by_cases e:up1 v r.2 (imin 1 (nth v r.1))=v
   ·exact .inr fun e2=>h (e2.trans e)
   ·exact .inl e
def Qzs {n:Nat} {y:Qe} {v:List Int} (hy:VL y n) (hv:v.length=n):Qgr y v=some (rsK y,rsN y v,rsB y v):=by
 have:=hy.a0;have:=hy.a1;have:=hy.b0;have:=hy.b1;unfold Qgr rsK rsN rsB rsO;have ha:idx v y.A=some (nth v y.A):=Qd7 hy.a0 (by omega);have e:(if (decide (y.B≥(0:Int)))=true then (idx v y.B).bind fun t14=>some t14 else some (1:Int))=some (if y.B≥0 then nth v y.B else 1):=by
  by_cases hb:y.B≥0
  ·rw[Zc (by simpa using hb),Zc hb,Qd7 hb (by omega)];rfl
  ·rw[Zd (by simpa using hb),Zd hb]
 rw[e];simp only[Za];by_cases hL:y.Least=true
 ·rw[Zc hL,Zc hL,Zc hL,Zc hL]
 ·rw[Zd hL,Zd hL,Zd hL,Zd hL];by_cases hF:rsF y=true
  ·rw[Zc hF,Zc hF,Zc hF];unfold rsF at hF;rw[Zc hF,ha];rfl
  ·rw[Zd hF,Zd hF,Zd hF];have hF':=hF;unfold rsF at hF;rw[Zd hF,ha];simp only[rsF,Zz,Zj,Ye,not_or] at hF';simp only[Za];rw[Qqk hF'.2];rfl
def Qxn {v:List Int} {c:Bool} {k m:Int} (k0:0≤k) (k1:k<v.length):Qbz k m v c=some (upc (v,c) k m):=by
 unfold Qbz upc;rw[Qd7 k0 k1];simp only[Za];by_cases h:nth v k<m
 ·rw[Zc (by simpa using h),Zc h];unfold setAt;rw[Zc ⟨k0,k1⟩];rfl
 ·rw[Zd (by simpa using h),Zd h];rfl
def Qxo {n:Nat} {E:Int→Bool} {w:List Int} {body:Int→Option (Int⊕(Unit⊕Bool))}
  (hb:∀k:Nat,k<n→body (k:Int)=some (if (decide (65536<nth w (k:Int))||(decide (0<nth w (k:Int))&&E (k:Int)))=true then .inr (.inr false) else .inl ((k+1:Nat):Int))) (he:body (n:Int)=some (.inr (.inl ()))):
  Ql body (0:Int)=some (if over E n w=true then .inr false else .inl ()):=by
 have h3:∀k,k<n→(fun k:Nat=>decide (65536<nth w (k:Int))||(decide (0<nth w (k:Int))&&E (k:Int))) k=false→body (k:Int)=some (.inl ((k+1:Nat):Int)):=fun k hk h=>by rw[hb k hk];dsimp only at h;rw[h];rfl
 have h4:∀k,k<n→(fun k:Nat=>decide (65536<nth w (k:Int))||(decide (0<nth w (k:Int))&&E (k:Int))) k=true→body (k:Int)=some (.inr (.inr false)):=fun k hk h=>by rw[hb k hk];dsimp only at h;rw[h];rfl
 rcases Qhf (body:=body) n _ (.inl ()) (fun _=>.inr false) h3 h4 he with⟨k,hk,h1,_,h2⟩ | ⟨h1,h2⟩
 ·rw[h2,Zc];unfold over;exact Yj.2 ⟨k,ZH.2 hk,h1⟩
 ·rw[h2,Zd];unfold over;rw[Yj];rintro ⟨k,hk,h⟩;rw[h1 k (ZH.1 hk)] at h;cases h
def refP (l:List QK):List (Int×Int):=l.map fun r=>(r.a0,r.a1)
structure StOk (n:Nat) (L:List Qe) (R:List QK):Prop where
 few:n≤6
 lim:∀y∈L,VL y n
 refs:∀r∈R,(0≤r.a0∧r.a0<n)∧(0≤r.a1∧r.a1<n)
 len:L.length≤1000
 rlen:R.length≤1000
def StOk.refP {n:Nat} {L:List Qe} {R:List QK} (h:StOk n L R):∀p∈refP R,(0≤p.1∧p.1<n)∧(0≤p.2∧p.2<n):=fun p hp=>by obtain⟨r,hr,rfl⟩:=ZC.1 hp;exact h.refs r hr
def zL:Qe:=⟨0,0,0,false⟩
def Qod {n:Nat} {L:List Qe} (h:∀y∈L,VL y n) (p:Nat→Bool):∀y∈sel L p zL,VL y n:=fun y hy=>by obtain⟨i,hi,_⟩:=QtI.1 hy;exact h y (Zq hi)
def Qjz {s:QaX} {n:Nat} (hn:s.x.Kinds.length=n) (hs:StOk n s.limits s.refs) {fl fe:Int→Option Bool} {p:Nat→Bool} {E:Int→Bool} (hl:∀i:Nat,i<s.limits.length→fl (i:Int)=some (p i)) (he:∀k:Nat,k<n→fe (k:Int)=some (E (k:Int))):
  QaD s fl fe=some (Qil E n (sel s.limits p zL) (refP s.refs)):=by
 have hfew:=hs.few;have hL:=hs.len;have hR:=hs.rlen;unfold QaD;rw[hn,QiQ n (0:Int) (by omega)];simp only[Za];rw[QwY (E:=E) (Qod hs.lim p) hs.refP (fun b=>if b=true then Sum.inl () else Sum.inr false) (fun v hv hz=>?_)]
 ·simp only[Za];cases Qil E n (sel s.limits p zL) (refP s.refs)<;>rfl
 ·have hset:∀(k m:Int) (t:List Int×Bool),0≤k→k<n→t.1.length=n→(upc t k m).1.length=n:=fun k m t _ _ ht=>by
   unfold upc;split
   ·simpa using ht
   ·exact ht
  rw[Qxl (range s.limits.length) (fun i t=>if p i=true then Qmt (s.limits.getD i zL) t else some t) (fun t=>t.1.length=n) false ?hI ?hb ?he (s:=(v,false)) hv]
  case hI=>
   intro i hi t t' ht h;split at h
   ·unfold Qmt at h;split at h
    ·obtain rfl:=Zs h;have hi:=ZH.1 hi;have hy:=hs.lim _ (Zn hi);have hk:=QjW hy;rw[Zh,Zb hi];exact hset _ _ t hk.1 hk.2 ht
    ·cases h
   ·obtain rfl:=Zs h;exact ht
  case hb=>
   intro k hk t ht;rw[Yo] at hk;have hy:=hs.lim _ (Zn hk);have hkk:=QjW hy;have hg:s.limits.getD k zL=s.limits[k]:=by rw[Zh,Zb hk];rfl
   dsimp only;rw[Zc (by simpa using hk),getElem_range,hg];unfold jn;rw[QX hk];simp only[Za];rw[hl k hk];simp only[Za]
   cases hp:p k with
   | false=>rw[Zc (show (!false)=true from rfl),Zd (show ¬(false=true) by decide),QH hk (by omega)]
   | true=>
    rw[Zd (show ¬((!true)=true) by decide),Zc rfl,Qzs hy ht];simp only[Za];unfold Qmt
    cases hb:rsB s.limits[k] t.1 with
    | false=>rw[Zc (show (!false)=true from rfl),Zd (show ¬(false=true) by decide)]
    | true=>rw[Zd (show ¬((!true)=true) by decide),Zc rfl,Qxn hkk.1 (by rw[ht];exact hkk.2)];simp only[Za];rw[QH hk (by omega)]
  case he=>intro t;dsimp only;rw[Yo,Zd (by simp)]
  rw[QlS Qmt (fun i=>s.limits.getD i zL) p];rw[show ((range s.limits.length).filter p).map (fun i=>s.limits.getD i zL)=sel s.limits p zL from rfl,QrO _ v false (Qod hs.lim p) hv];unfold rnd
  cases hu:rndL (sel s.limits p zL) v with
  | none=>rfl
  | some u=>
   have hvu:=QjX _ v u (Qod hs.lim p) hv hu;have hul:u.length=n:=hvu.1.symm.trans hv;simp only[ZY,Za,Bool.false_or];rw[Qzr s.refs (fun r t=>Qoc (r.a0,r.a1) t) (fun t=>t.1.length=n) (fun r hr t ht=>hset _ _ t (hs.refs r hr).2.1 (hs.refs r hr).2.2 ht) (fun k hk t ht=>?_) (fun t=>by rw[Zd (by simp)]) (s:=(u,decide (u≠v))) hul]
   ·have e1:s.refs.foldl (fun t r=>Qoc (r.a0,r.a1) t) (u,decide (u≠v))=(refP s.refs).foldl (fun t r=>Qoc r t) (u,decide (u≠v)):=by
     unfold Go.Proofs.YtlajingmjmnfgaaGreatDoor.refP;rw[foldl_map]
    rw[e1,QrP (n:=n) _ _ _ (fun r hr=>(hs.refP r hr).2) hul];have huw:=QjY (n:=n) (refP s.refs) u (fun r hr=>(hs.refP r hr).2) hul;generalize hw:rndR (refP s.refs) u=w at huw ⊢;have hwl:w.length=n:=huw.1.symm.trans hul;simp only[Za];rw[Qxo (n:=n) (E:=E) (w:=w) (fun k hk=>?_) (by rw[hwl,Zd (by simp)])]
    ·have e2:(decide (u≠v)||decide (w≠u))=decide (w≠v):=by
      rw[ZZ];simp only[YB,decide_not,Zz,Ym,ZI];constructor
      ·rintro (h | h) e
       ·exact h (huw.anti (by rw[e];exact hvu) |>.trans e)
       ·exact h (by rw[e];exact (hvu.anti (by rw[e] at huw;exact huw)))
      ·intro h;by_cases e:u=v
       ·exact .inr fun e2=>h (e2.trans e)
       ·exact .inl e
     rw[e2];simp only[Za]
     cases ho:over E n w with
     | true=>rfl
     | false=>
      by_cases e:w=v
      ·simp[e]
      ·simp[e]
    ·have hi:=Qd7 (c:=w) (i:=(k:Int)) (by omega) (by omega);rw[hwl,Zc (by simpa using hk),hi];simp only[Za];have hop:(opt (((decide (nth w (k:Int)>(65536:Int)))==false)&&((decide (nth w (k:Int)>(0:Int)))==true)) (fe (k:Int)) default)=some (if (((decide (nth w (k:Int)>(65536:Int)))==false)&&((decide (nth w (k:Int)>(0:Int)))==true))=true then E (k:Int) else default):=by
      unfold opt;split
      ·exact he k hk
      ·rfl
     rw[hop];simp only[Za];rw[QH hk (by omega)];have e3:((decide (nth w (k:Int)>(65536:Int)))||((decide (nth w (k:Int)>(0:Int)))&&(if (((decide (nth w (k:Int)>(65536:Int)))==false)&&((decide (nth w (k:Int)>(0:Int)))==true))=true then E (k:Int) else default)))=(decide (65536<nth w (k:Int))||(decide (0<nth w (k:Int))&&E (k:Int))):=by
      by_cases h1:nth w (k:Int)>65536
      ·simp[h1]
      ·by_cases h2:nth w (k:Int)>0
       ·simp[h1,h2]
       ·simp[h1,h2]
     rw[e3];split<;>rfl
   ·have hr:=hs.refs _ (Zn hk);rw[Zc (by simpa using hk),QX hk];simp only[Za];rw[Qd7 hr.1.1 (by rw[ht];exact hr.1.2)];simp only[Za];rw[Qxn hr.2.1 (by rw[ht];exact hr.2.2)];simp only[Za];rw[QH hk (by omega)];rfl
def ref_up {x:Qa} (hc:QY x=[]) {i j:Nat} (hi:i<x.Kinds.length) (hj:j<x.Kinds[i].Fields.length) (hk:x.Kinds[i].Fields[j].Kind=1):0≤upIx x (i:Int) (j:Int)∧upIx x (i:Int) (j:Int)<(x.Kinds.length:Int):=by have h1:=Qrs (clean hc (QX hi) (Qne hi hj)) (.inl hk);have h2:=(Qtt x (i:Int) (j:Int) (by omega)).1;exact⟨h1,by omega⟩
def QCd {x:Qa} (hc:QY x=[]) {i j:Nat} (hi:i<x.Kinds.length):∀r∈refF x i x.Kinds[i] j,(0≤r.a0∧r.a0<(x.Kinds.length:Int))∧(0≤r.a1∧r.a1<(x.Kinds.length:Int)):=by
 intro r hr;unfold refF at hr;by_cases hj:j<x.Kinds[i].Fields.length
 ·rw[Zb hj] at hr;dsimp only at hr;split at hr
  ·next hk=>obtain rfl:=Ze.1 hr;have:=ref_up hc hi hj (by simpa using hk);exact⟨⟨by dsimp only;omega,by dsimp only;omega⟩,this⟩
  ·cases hr
 ·rw[getElem?_eq_none (by omega)] at hr;cases hr
def QCe {x:Qa} (hc:QY x=[]) {i:Nat} (hi:i<x.Kinds.length):∀r∈refK x i,(0≤r.a0∧r.a0<(x.Kinds.length:Int))∧(0≤r.a1∧r.a1<(x.Kinds.length:Int)):=by intro r hr;unfold refK at hr;rw[Zb hi] at hr;obtain⟨j,_,hr⟩:=ZG.1 hr;exact QCd hc hi r hr
def Qzt {x:Qa} (hc:QY x=[]):∀r∈Qhk x,(0≤r.a0∧r.a0<(x.Kinds.length:Int))∧(0≤r.a1∧r.a1<(x.Kinds.length:Int)):=by intro r hr;obtain⟨i,hi,hr⟩:=ZG.1 hr;exact QCe hc (ZH.1 hi) r hr
def QkS {x:Qa} (hc:QY x=[]):StOk x.Kinds.length (limL Qe.mk x) (Qhk x) where
 few:=(Qav hc).kinds
 lim:=fun y hy=>(QlR hc y hy).1
 refs:=Qzt hc
 len:=by have hv:=Qav hc;have h1:=Qa7 x.Kinds.length (kndL Qe.mk x) 22 fun j _=>(Qiy Qe.mk hv j).1;have:=hv.kinds;unfold limL;omega
 rlen:=by have:=QwW (Qav hc);omega
def QuN {E F:Int→Bool} {n:Nat} {v:List Int} (h:∀k:Nat,k<n→E (k:Int)=F (k:Int)):over E n v=over F n v:=by
 rw[ZZ];unfold over;simp only[Yj,ZH];constructor
 ·rintro ⟨k,hk,h1⟩;exact⟨k,hk,by rw[←h k hk];exact h1⟩
 ·rintro ⟨k,hk,h1⟩;exact⟨k,hk,by rw[h k hk];exact h1⟩
def QtJ {α β:Type} (l:List α) (p:α→Bool) (g:α→β) {body:Int×List β→Option ((Int×List β)⊕List β)}
  (hs:∀k (h:k<l.length) (acc:List β),acc.length≤k→body ((k:Int),acc)=some (.inl (((k+1:Nat):Int),if p l[k]=true then acc++[g l[k]] else acc))) (he:∀acc,body ((l.length:Int),acc)=some (.inr acc)):
  Ql body ((0:Int),[])=some ((l.filter p).map g):=by
 have h:=Qcn (body:=body) l.length (fun n=>((n:Int),((l.take n).filter p).map g)) ((l.filter p).map g) (fun k hk=>?_) ?_
 ·simpa using h
 ·rw[hs k hk _ (by rw[ZT];exact Yu (length_filter_le _ _) (by rw[Yb];omega)),Zu hk,filter_append,ZV];by_cases hp:p l[k]=true
  ·rw[Zc hp];simp[hp]
  ·rw[Zd hp];simp[hp]
 ·rw[he];simp
def Qzu {x:Qa} {k:Int} {p:Nat→Bool} {j:Nat} (h:j<(ownI x k p).length):(ownI x k p).getD j 0=(ownI x k p)[j]:=by rw[Zh,Zb h];rfl
def Qoe {x:Qa} (hc:QY x=[]) {k:Int} (k0:0≤k) (k1:k<x.Kinds.length) (p:Nat→Bool):(cycS (flen x k:Int) (ownD x k p)).1.length≤12∧∀c∈(cycS (flen x k:Int) (ownD x k p)).1,0≤c∧c<(ownI x k p).length:=by
 refine⟨Qzd _ _,fun c hcm=>?_⟩;have hlen:(ownD x k p).length=(ownI x k p).length:=by unfold ownD;simp
 rw[Qnf hc k0 k1 p] at hcm
 cases h:QeH (QbG ((ownD x k p).map (edN (flen x k+1)))) (ownD x k p).length (flen x k) 2 with
 | none=>rw[h] at hcm;cases hcm
 | some q=>rw[h] at hcm;obtain⟨js,hq,hj,_⟩:=Qna (Qg1 hc k0 k1 p) h;dsimp only at hcm;rw[hq] at hcm;obtain⟨j,hjm,rfl⟩:=ZC.1 hcm;have:=hj j hjm;exact⟨by omega,by omega⟩
def QtK {x:Qa} {i:Nat} (hi:i<x.Kinds.length):flen x (i:Int)=x.Kinds[i].Fields.length:=by unfold flen;rw[QX hi]
def QoU {x:Qa} {k:Int} {p:Nat→Bool}:(cycN x k p).length=(cycS (flen x k:Int) (ownD x k p)).1.length:=by unfold cycN;simp
def ints (l:List Nat):List Int:=l.map fun (i:Nat)=>(i:Int)
def Qj4 {x:Qa} (hc:QY x=[]) {i:Nat} (hi:i<x.Kinds.length) {f:Int→Option Bool} {p:Nat→Bool} (hf:∀j:Nat,j<(Qaz x).length→f (j:Int)=some (p j)):
  QcJ (Qbm x) (i:Int) f=some (ints (cycN x (i:Int) p)):=by
 have hv:=Qav hc;have hdl:=QgY hv;obtain⟨D,hD⟩:∃D,(Qaz x).map mkD=D:=⟨_,rfl⟩;have hDl:D.length=(Qaz x).length:=by rw[←hD];simp
 unfold QcJ;rw[show (Qbm x).diffs=D from hD,show ((Qbm x).x)=x from rfl];have hget:∀j (h:j<D.length),D[j]=mkD ((Qaz x)[j]'(by omega)):=fun j h=>by subst hD;simp
 have hlen:∀n,(((range n).filter fun j=>dK x j==(i:Int)&&p j)).length≤n:=fun n=>by
  have:=length_filter_le (fun j=>dK x j==(i:Int)&&p j) (range n)
  rwa [Yo] at this
 refine QbT (ρ:=List Int×List Qz) D.length (fun n=>((n:Int),ints ((range n).filter fun j=>dK x j==(i:Int)&&p j),((range n).filter fun j=>dK x j==(i:Int)&&p j).map (dD x))) (ints (ownI x (i:Int) p),ownD x (i:Int) p) rfl (fun n hn=>?_) ?_ ?_
 ·have hn':n<(Qaz x).length:=by omega
  dsimp only;rw[Zc (by simpa using hn),QX hn,hget n hn];simp only[Za];have hk:dK x n=(mkD (Qaz x)[n]).kind:=by unfold dK;rw[Qn9 hn'];rfl
  have hd:dD x n=(mkD (Qaz x)[n]).Diff:=by unfold dD;rw[Qn9 hn'];rfl
  rw[←hk,←hd,QH hn (by omega),Yf,filter_append];have h1:=hlen n
  cases hkk:(dK x n==(i:Int)) with
  | false=>simp[opt,hkk]
  | true=>
   simp only[opt,beq_self_eq_true,if_true];rw[hf n hn'];simp only[Za,Bool.true_and]
   cases hp:p n with
   | false=>simp[hkk,hp]
   | true=>rw[Zc rfl,Qb2 (by simp;omega)];simp only[Za];rw[Qb2 (by unfold ints;simp;omega)];simp[hkk,hp,ints]
 ·dsimp only;rw[Zd (by simp)];unfold ownI ownD ownI;rw[hDl]
 ·simp only[Za];rw[QX hi];simp only[Za];rw[cyc_is];simp only[Za];rw[←QtK hi];have k1:(i:Int)<x.Kinds.length:=by omega
  obtain⟨l12,hjs⟩:=Qoe hc (by omega) k1 p;by_cases he:(cycS (flen x (i:Int):Int) (ownD x (i:Int) p)).2=0
  ·rw[Zd (by simpa using he)];have hne:cycN x (i:Int) p≠[]:=fun h=>((Qmo hc (by omega) k1 p).2.1 h) he;rw[Qrh (cycS (flen x (i:Int):Int) (ownD x (i:Int) p)).1 (fun c=>(((ownI x (i:Int) p).getD c.toNat 0:Nat):Int)) (fun k hk acc ha=>?_) (fun acc=>by rw[Zd (by simp)])]
   ·simp only[Za];have e:((cycS (flen x (i:Int):Int) (ownD x (i:Int) p)).1.map fun c=>(((ownI x (i:Int) p).getD c.toNat 0:Nat):Int))=ints (cycN x (i:Int) p):=by
     unfold ints cycN;rw[Yw];rfl
    rw[e]
    cases hcy:cycN x (i:Int) p with
    | nil=>exact absurd hcy hne
    | cons a l=>rfl
   ·have hcm:=hjs _ (Zn hk);dsimp only;rw[Zc (by simpa using hk),QX hk];simp only[Za];obtain⟨j,hj⟩:=Zw hcm.1;have hjl:j<(ownI x (i:Int) p).length:=by omega
    rw[hj,QX (xs:=ints (ownI x (i:Int) p)) (by unfold ints;simpa using hjl)];simp only[Za,Zr];rw[Qb2 (by simp;omega),QH hk (by omega),Qzu hjl];simp[ints]
  ·rw[Zc (by simpa using he)];have:cycN x (i:Int) p=[]:=(Qmo hc (by omega) k1 p).2.2 he;rw[this];rfl
def QCf {x:Qa} {k:Int} {p:Nat→Bool}:((sel (Qaz x) p d0T).filter fun t=>t.1==k).map (fun t=>t.2.2)=ownD x k p:=by unfold sel ownD ownI;rw[filter_map,Yw,filter_filter];rfl
def Qbp (x:Qa):List Qe:=limL Qe.mk x
def nLim (x:Qa):Nat:=(Qbp x).length
def Qfj (x:Qa) (I:Nat→Bool):Bool:=Qil (fun k=>!(cycN x k fun j=>I (nLim x+j)).isEmpty) x.Kinds.length (sel (Qbp x) I zL) (refP (Qhk x))
def QsB {α:Type} {l:List α} {p q:α→Bool} (h:∀a∈l,p a=q a):l.filter p=l.filter q:=filter_congr h
def QpL {α:Type} {l:List α} {p q:Nat→Bool} {d:α} (h:∀i,i<l.length→p i=q i):sel l p d=sel l q d:=by unfold sel;rw[QsB fun i hi=>h i (ZH.1 hi)]
def QtL {s:List Nat} {i:Nat} (hs:s.length≤1000):QaM (i:Int) (ints s)=some (s.contains i):=by
 unfold QaM Qdv QeA;rw[QkD (ints s) (fun v=>(i:Int)==v) (fun k hk=>?_) ?_]
 ·have e:s.contains i=(ints s).any fun v=>(i:Int)==v:=by
   unfold ints;rw[any_map,contains_eq_any_beq];congr 1
   funext j
   rw[ZZ];simp;omega
  rw[e,←Qtn];unfold fIx;cases (ints s).findIdx? fun v=>(i:Int)==v<;>rfl
 ·rw[Zd (by simp)]
 ·rw[Zc (by simpa using hk),QX hk];simp only[Za];rw[QH hk (by unfold ints;simp;omega)]
def QtM {x:Qa} (hc:QY x=[]) {s:List Nat} (hs:s.length≤1000):QcY (Qbm x) (ints s)=some (Qfj x fun i=>s.contains i):=by
 have hst:=QkS hc;unfold QcY;rw[Qjz (s:=Qbm x) (n:=x.Kinds.length) rfl hst (p:=fun i=>s.contains i) (E:=fun k=>!(cycN x k fun j=>s.contains (nLim x+j)).isEmpty) (fun i _=>QtL hs) (fun k hk=>?_)]
 ·rfl
 ·unfold Qel;rw[Qj4 hc hk (p:=fun j=>s.contains (nLim x+j)) (fun j hj=>?_)]
  ·simp only[Za];congr 2;unfold ints;cases cycN x (k:Int) fun j=>s.contains (nLim x+j)<;>rfl
  ·unfold Qcy;have h1:=QgY (Qav hc);have h2:=hst.len;have e:i64.wrap (((Qbm x).limits.length:Int)+(j:Int))=((nLim x+j:Nat):Int):=by
    show i64.wrap (((limL Qe.mk x).length:Int)+(j:Int))=_;unfold nLim Qbp;rw[w64 (by omega) (by omega)];omega
   rw[e];show ((QaM ((nLim x+j:Nat):Int) (ints s)).bind fun t13=>some t13)=_;rw[QtL hs];rfl
def QpM {x:Qa}:(namL x).length=nLim x:=by
 unfold nLim Qbp namL limL;rw[length_flatMap,length_flatMap];congr 1;refine map_congr_left fun i hi=>?_;unfold kndN kndL
 cases x.Kinds[i]? with
 | none=>rfl
 | some q=>
  dsimp only;rw[Zi,Zi,length_flatMap,length_flatMap];refine ZF (2+sum ·) ?_;refine map_congr_left fun j hj=>?_;unfold fldN fldL
  cases q.Fields[j]? with
  | none=>rfl
  | some f=>dsimp only;split<;>rfl
def Qh2 (x:Qa):(Qdr x).length=nLim x+(Qaz x).length:=by unfold Qdr;rw[Zi,QpM,ZT]
def Qh3 (x:Qa) (i:Nat):Str:=(Qdr x).getD i []
def QdZ (all:List Str):List Str→Nat→Option (List Nat)
 | [],_=>some []
 | n::l,b=>match all.findIdx? (fun t=>n==t) with
  | some i=>if b≤i then (QdZ all l (i+1)).map (i::·) else none
  | none=>none
def Qof (x:Qa) (names:List Str):Int:=match QY x with
 | p::_=>p.Code
 | []=>if nLim x>16 then 4 else match QdZ (Qdr x) names 0 with
  | none=>12
  | some js=>if Qfj x (fun i=>js.contains i)=true then 15 else if ((range js.length).all fun s=>Qfj x fun i=>(js.eraseIdx s).contains i)=true then 0 else 15
def Qog {all:List Str}:∀{l:List Str} {b:Nat} {js:List Nat},QdZ all l b=some js→l=js.map (fun i=>all.getD i [])∧js.Pairwise (·< ·)∧∀j∈js,b≤j∧j<all.length
 | [],b,js,h=>by obtain rfl:=Zs h;simp
 | n::l,b,js,h=>by
  unfold QdZ at h
  cases hi:all.findIdx? (fun t=>n==t) with
  | none=>rw[hi] at h;cases h
  | some i=>
   rw[hi] at h;dsimp only at h;split at h
   ·next hb=>
    cases hm:QdZ all l (i+1) with
    | none=>rw[hm] at h;cases h
    | some ks=>
     rw[hm] at h;obtain rfl:=Zs h;obtain⟨h1,h2,h3⟩:=Qog hm;obtain⟨hl,hp,_⟩:=ZP.1 hi;refine⟨?_,pairwise_cons.2 ⟨fun j hj=>(h3 j hj).1,h2⟩,fun j hj=>?_⟩
     ·rw[Yi,←h1,Zh,Zb hl];have:n=all[i]:=by simpa using hp
      rw[this];rfl
     ·rcases Zm.1 hj with rfl | hj
      ·exact⟨hb,hl⟩
      ·have:=h3 j hj;exact⟨by omega,this.2⟩
   ·cases h
def Qxp {all l:List Str} {b:Nat} {js:List Nat} (h:QdZ all l b=some js):js.length=l.length∧js.length≤all.length:=by
 obtain⟨h1,h2,h3⟩:=Qog h;have e:js.length=l.length:=by rw[h1];simp
 have hn:js.Nodup:=h2.imp fun h=>by omega
 have:=Qg0 js (range all.length) hn fun j hj=>ZH.2 (h3 j hj).2;rw[Yo] at this;exact⟨e,this⟩
def Qxq {α:Type} {l:List α} (h:l.Nodup) {i j:Nat} (hi:i<l.length) (hj:j<l.length) (e:l[i]=l[j]):i=j:=by
 have hp:=pairwise_iff_getElem.1 (show Pairwise (·≠·) l from h);rcases Nat.lt_trichotomy i j with h' | h' | h'
 ·exact absurd e (hp i j hi hj h')
 ·exact h'
 ·exact absurd e.symm (hp j i hj hi h')
def Qzv {l:List Str} {n:Str} (hl:l.length≤1000000):Qb1 l n=some (match l.findIdx? (fun t=>n==t) with | some k=>(k:Int) | none=>-1):=by
 unfold Qb1;rw[QkD l (fun t=>n==t) (fun k hk=>?_) (by rw[Zd (by simp)])]
 ·cases l.findIdx? (fun t=>n==t)<;>rfl
 ·rw[Zc (by simpa using hk),QX hk];simp only[Za];rw[QH hk (by omega)]
def Qir (acc:List Nat):Nat:=match acc.getLast? with | some a=>a+1 | none=>0
def Qxr {all names:List Str} (ha:all.length≤1000) (hn:names.length≤1000000) {body:Int×List Int→Option ((Int×List Int)⊕(List Int⊕Int))}
  (hb:∀k (h:k<names.length) (acc:List Nat),acc.length≤k→body ((k:Int),ints acc)=(Qb1 all names[k]).bind fun t37=>(opt (((decide (t37<(0:Int)))==false)&&((decide (((ints acc).length:Int)>(0:Int)))==true)) (idx (ints acc) (i64.wrap (((ints acc).length:Int) - (1:Int)))) default).bind fun t50=>(if ((decide (t37<(0:Int)))||((decide (((ints acc).length:Int)>(0:Int)))&&(decide (t37≤t50))))=true then (some (.inr (.inr (12:Int)))) else (rm ((ints acc).length+[t37].length)).bind fun _=>(some (.inl ((i64.wrap ((k:Int)+(1:Int))),((ints acc)++[t37]))))))
  (he:∀acc:List Nat,body ((names.length:Int),ints acc)=some (.inr (.inl (ints acc)))):
  Ql body ((0:Int),[])=some (match QdZ all names 0 with | some js=>.inl (ints js) | none=>.inr (12:Int)):=by
 have key:∀m k (acc:List Nat),k+m=names.length→acc.length≤k→Ql body ((k:Int),ints acc)=some (match QdZ all (names.drop k) (Qir acc) with | some js=>.inl (ints (acc++js)) | none=>.inr (12:Int)):=by
  intro m
  induction m with
  | zero=>
   intro k acc hk _;have:k=names.length:=by omega
   subst this;rw[Qas,he,drop_length];simp[QdZ]
  | succ m ih=>
   intro k acc hk hal;have hkl:k<names.length:=by omega
   rw[Qas,hb k hkl acc hal,Qzv (by omega),Yk hkl];unfold QdZ
   cases hi:all.findIdx? (fun t=>names[k]==t) with
   | none=>simp[opt]
   | some i=>
    obtain⟨hil,_,_⟩:=ZP.1 hi;simp only[Za];have hneg:decide ((i:Int)<0)=false:=decide_eq_false (by omega);rw[hneg];have hcond:∃t,(opt ((false==false)&&((decide (((ints acc).length:Int)>(0:Int)))==true)) (idx (ints acc) (i64.wrap (((ints acc).length:Int) - (1:Int)))) default)=some t∧(false||((decide (((ints acc).length:Int)>(0:Int)))&&(decide ((i:Int)≤t))))=!decide (Qir acc≤i):=by
     have hlen:(ints acc).length=acc.length:=by unfold ints;simp
     rcases eq_nil_or_concat acc with rfl | ⟨pre,a,rfl⟩
     ·exact⟨default,by simp[opt,ints],by simp[ints,Qir]⟩
     ·simp only[concat_eq_append] at hlen hal ⊢;rw[hlen];have e1:i64.wrap (((pre++[a]).length:Int) - 1)=(pre.length:Int):=by rw[Zi];simp;rw[w64 (by omega) (by simp at hal;omega)]
      refine⟨(a:Int),?_,?_⟩
      ·rw[e1,Qci];have:(ints (pre++[a]))[pre.length]?=some (a:Int):=by unfold ints;simp
       rw[this];simp[opt]
      ·have:Qir (pre++[a])=a+1:=by unfold Qir;simp
       rw[this,ZZ];simp;omega
    obtain⟨t,ht,hc⟩:=hcond;rw[ht];simp only[Za];rw[hc];by_cases hle:Qir acc≤i
    ·rw[decide_eq_true hle];simp only[Bool.not_true,ZU,if_false,Zc hle];rw[Qb2 (by unfold ints;simp;omega),QH hkl (by omega)];simp only[Za];have e:ints acc++[(i:Int)]=ints (acc++[i]):=by unfold ints;simp
     rw[e,ih (k+1) (acc++[i]) (by omega) (by simp;omega)];have e2:Qir (acc++[i])=i+1:=by unfold Qir;simp
     rw[e2]
     cases QdZ all (names.drop (k+1)) (i+1) with
     | none=>rfl
     | some js=>simp
    ·rw[decide_eq_false hle];simp[hle]
 have:=key names.length 0 [] (by omega) (by simp);rw[drop_zero] at this;simpa[Qir,ints] using this
def QuO (js:List Nat) (s:Nat):(ints js).take s++(ints js).drop (s+1)=ints (js.eraseIdx s):=by unfold ints;rw[eraseIdx_eq_take_drop_succ,ZV,map_take,map_drop]
def QuP {x:Qa} (hs:Qfh x) {names:List Str} (hn:names.length≤1000000):Qgu x names=some (Qof x names):=by
 unfold Qgu Qof;rw[Qru hs];unfold QnZ
 cases hc:QY x with
 | cons p l=>have:=QkH (x:=x) (p:=p) (by rw[hc];exact Zk ..);dsimp only[Option.bind_some];rw[Zc (by simpa using this)]
 | nil=>
  have hv:=Qav hc;have hst:=QkS hc;have hnl:(Qdr x).length≤1000:=by have h1:=QgY hv;have h2:=Qm4 hv;unfold Qdr;rw[Zi,ZT];omega
  dsimp only[Option.bind_some];rw[Zd (by simp),Qrx hs hc];simp only[Za];rw[show (Qbm x).limits=Qbp x from rfl];by_cases h16:nLim x>16
  ·rw[Zc (decide_eq_true (by unfold nLim at h16;omega)),Zc h16]
  ·rw[Zd (by simp;unfold nLim at h16;omega),Zd h16];rw[Qxr (all:=Qdr x) (names:=names) hnl hn (fun k hk acc _=>by
    dsimp only;rw[Zc (by simpa using hk),QX hk];rfl) (fun acc=>by rw[Zd (by simp)])]
   simp only[Za]
   cases hm:QdZ (Qdr x) names 0 with
   | none=>rfl
   | some js=>
    have hjl:=(Qxp hm).2;dsimp only;rw[QtM hc (by omega)];simp only[Za]
    cases hk:Qfj x fun i=>js.contains i with
    | true=>rfl
    | false=>
     rw[Zd (by simp),Zd (by simp)];have hil:(ints js).length=js.length:=by unfold ints;simp
     rw[Qrg (range js.length) (fun s=>Qfj x fun i=>(js.eraseIdx s).contains i) (15:Int) (fun s hs'=>?_) (by rw[Yo,hil,Zd (by simp)])]
     ·cases (range js.length).all fun s=>Qfj x fun i=>(js.eraseIdx s).contains i<;>rfl
     ·rw[Yo] at hs';rw[hil,Zc (by simpa using hs'),getElem_range];unfold QcK;rw[Qb2 (by simp;omega)];simp only[Za,Yg];rw[QH hs' (by omega)];unfold Qef;rw[Zc ⟨by omega,by omega,by omega,by omega⟩];simp only[Za,Zr];rw[QuO,QtM hc (by have:=length_eraseIdx_le js s;omega)];simp only[Za];cases Qfj x fun i=>(js.eraseIdx s).contains i<;>rfl
def cyc (x:Qa) (k:Nat):List Nat:=cycN x (k:Int) fun _=>true
def recS (x:Qa) (K:Nat):List Nat:=(range x.Kinds.length).flatMap fun k=>if K.testBit k=true then cyc x k else []
def Qd1 (x:Qa) (m K:Nat):Bool:=Qil (fun k=>K.testBit k.toNat) x.Kinds.length (sel (Qbp x) (fun i=>m.testBit i) zL) (refP (Qhk x))
def Qc6 (x:Qa):Bool:=Qil (fun k=>!(cycN x k fun _=>true).isEmpty) x.Kinds.length (sel (Qbp x) (fun _=>true) zL) (refP (Qhk x))
def Qjn (x:Qa) (K:Nat):Prop:=K<2 ^ x.Kinds.length∧∀k,k<x.Kinds.length→K.testBit k=true→cyc x k≠[]
def QbH (x:Qa) (K m:Nat):Nat:=ones m+(recS x K).length
def wOf (x:Qa) (K m:Nat):List Nat:=setL (nLim x) m++(recS x K).map fun c=>nLim x+c
structure BadM (x:Qa) (K m:Nat):Prop where
 good:Qjn x K
 lt:m<2 ^ nLim x
 bad:Qd1 x m K=false
structure MinM (x:Qa) (K m:Nat):Prop where
 bad:BadM x K m
 min:∀K' m',BadM x K' m'→QbH x K m≤QbH x K' m'
def Qj5 (p:Nat→Bool):∀n,∃K,K<2 ^ n∧∀k,k<n→K.testBit k=p k
 | 0=>⟨0,by omega,fun k hk=>by omega⟩
 | n+1=>by
  obtain⟨K,h1,h2⟩:=Qj5 (fun k=>p (k+1)) n
  cases hp:p 0 with
  | true=>
   refine⟨2 * K+1,by rw[Nat.pow_succ];omega,fun k hk=>?_⟩
   cases k with
   | zero=>rw[QyX,hp]
   | succ k=>rw[QBN];exact h2 k (by omega)
  | false=>
   refine⟨2 * K,by rw[Nat.pow_succ];omega,fun k hk=>?_⟩
   cases k with
   | zero=>rw[Qww,hp]
   | succ k=>rw[QyW];exact h2 k (by omega)
def QmN {n:Nat} {E F:Int→Bool} {l:List Qe} {r:List (Int×Int)} (h:∀k:Nat,k<n→E (k:Int)=F (k:Int)):Qil E n l r=Qil F n l r:=by
 have key:∀(f:Nat) (v:List Int),Qik E n l r f v=Qik F n l r f v:=by
  intro f
  induction f with
  | zero=>intro v;rfl
  | succ f ih=>
   intro v;unfold Qik
   cases rnd l r v with
   | none=>rfl
   | some w=>dsimp only;rw[QuN h,ih w]
 exact key _ _
section
variable {x:Qa} (hc:QY x=[])
include hc
theorem Qi3 {k:Nat} (hk:k<x.Kinds.length) {c:Nat} (h:c∈cyc x k):c<(Qaz x).length∧dK x c=(k:Int):=by
 have hne:cycN x (k:Int) (fun _=>true)≠[]:=fun e=>by unfold cyc at h;rw[e] at h;cases h
 have:=(Qng hc (by omega) (by omega) _ hne).1 c h;exact⟨this.1,this.2.1⟩
theorem Qxs {k:Nat} (hk:k<x.Kinds.length):(cyc x k).Nodup:=by
 by_cases hne:cycN x (k:Int) (fun _=>true)=[]
 ·unfold cyc;rw[hne];exact nodup_nil
 ·exact (Qng hc (by omega) (by omega) _ hne).2.1
omit hc in
theorem Qgh {K c:Nat}:c∈recS x K↔∃k,k<x.Kinds.length∧K.testBit k=true∧c∈cyc x k:=by
 unfold recS;simp only[ZG,ZH];constructor
 ·rintro ⟨k,hk,h⟩;split at h
  ·next hb=>exact⟨k,hk,hb,h⟩
  ·cases h
 ·rintro ⟨k,hk,hb,h⟩;exact⟨k,hk,by rw[Zc hb];exact h⟩
theorem Qjo (K:Nat):(recS x K).Nodup:=by
 unfold recS;refine Qgg (fun c=>(dK x c).toNat) _ _ fun k hk=>⟨?_,fun c h=>?_⟩
 ·split
  ·exact Qxs hc hk
  ·exact nodup_nil
 ·split at h
  ·have:=(Qi3 hc hk h).2;omega
  ·cases h
theorem QrQ {K c:Nat} (h:c∈recS x K):c<(Qaz x).length:=by obtain⟨k,hk,_,h⟩:=Qgh.1 h;exact (Qi3 hc hk h).1
theorem QCg (K:Nat):(recS x K).length≤(Qaz x).length:=by
 have:=Qg0 _ (range (Qaz x).length) (Qjo hc K) fun c h=>ZH.2 (QrQ hc h)
 rwa [Yo] at this
omit hc in
theorem QkT (f m:Nat):(setL f m).Nodup:=Pairwise.sublist filter_sublist (nodup_range)
theorem QCh (K m:Nat):(wOf x K m).Nodup:=by
 unfold wOf;refine nodup_append.2 ⟨QkT _ _,?_,fun a ha b hb e=>?_⟩
 ·show Pairwise _ _;rw[pairwise_map];exact (Qjo hc K).imp fun h e=>h (by omega)
 ·obtain⟨c,_,rfl⟩:=ZC.1 hb;have:=(QfX.1 ha).1;omega
theorem w_lt {K m i:Nat} (h:i∈wOf x K m):i<nLim x+(Qaz x).length:=by
 unfold wOf at h;rcases Zp.1 h with h | h
 ·have:=(QfX.1 h).1;omega
 ·obtain⟨c,hcm,rfl⟩:=ZC.1 h;have:=QrQ hc hcm;omega
omit hc in
theorem Qqn {K m i:Nat} (hi:i<nLim x):i∈wOf x K m↔m.testBit i=true:=by
 unfold wOf;rw[Zp,QfX];constructor
 ·rintro (h | h)
  ·exact h.2
  ·obtain⟨c,_,e⟩:=ZC.1 h;omega
 ·exact fun h=>.inl ⟨hi,h⟩
omit hc in
theorem Qoh {K m c:Nat}:nLim x+c∈wOf x K m↔c∈recS x K:=by
 unfold wOf;rw[Zp];constructor
 ·rintro (h | h)
  ·have:=(QfX.1 h).1;omega
  ·obtain⟨d,hd,e⟩:=ZC.1 h;have:d=c:=by omega
   rw[←this];exact hd
 ·exact fun h=>.inr (ZC.2 ⟨c,h,rfl⟩)
omit hc in
theorem Qmu {K m:Nat} (h16:nLim x≤16) (hm:m<2 ^ nLim x):(wOf x K m).length=QbH x K m:=by unfold wOf QbH;rw[Zi,ZT,Qfd _ _ h16 hm]
theorem Qzw {k:Nat} (hk:k<x.Kinds.length) {I:Nat→Bool} {b:Bool} (h1:b=true→NegK x (k:Int) fun j=>I j=true) (h2:b=false→¬NegK x (k:Int) fun j=>I j=true):(!(cycN x (k:Int) I).isEmpty)=b:=by
 have h:=(Qmo hc (k:=(k:Int)) (by omega) (by omega) I).1
 cases b with
 | true=>
  have:=h.2 (h1 rfl)
  cases hC:cycN x (k:Int) I with
  | nil=>exact absurd hC this
  | cons a l=>rfl
 | false=>
  cases hC:cycN x (k:Int) I with
  | nil=>rfl
  | cons a l=>exact absurd (h.1 (by rw[hC];simp)) (h2 rfl)
theorem QoV {k:Nat} (hk:k<x.Kinds.length) (hne:cyc x k≠[]):(NegK x (k:Int) fun j=>j∈cyc x k)∧∀c∈cyc x k,¬NegK x (k:Int) fun j=>j∈cyc x k∧j≠c:=
 have h:=Qng hc (k:=(k:Int)) (by omega) (by omega) _ hne
 ⟨h.2.2.1,h.2.2.2⟩
theorem QlT {I:Nat→Bool} {m K:Nat} (hm:∀i,i<nLim x→I i=m.testBit i) (hK:∀k,k<x.Kinds.length→(K.testBit k=true→NegK x (k:Int) fun j=>I (nLim x+j)=true)∧(K.testBit k=false→¬NegK x (k:Int) fun j=>I (nLim x+j)=true)):Qfj x I=Qd1 x m K:=by unfold Qfj Qd1;rw[QpL (p:=I) (q:=fun i=>m.testBit i) (fun i hi=>hm i hi)];refine QmN fun k hk=>?_;rw[Zr];exact Qzw hc hk (hK k hk).1 (hK k hk).2
omit hc in
theorem Qzx {k:Int} {I:Nat→Prop} (h:NegK x k I):∃j,dK x j=k∧I j:=by
 obtain⟨i,es,h1,h2,h3⟩:=h
 cases es with
 | nil=>simp[esum] at h2
 | cons e es=>obtain⟨j,_,j2,j3,_⟩:=h3 e (Zk ..);exact⟨j,j2,j3⟩
theorem QoW {K k:Nat} (hg:Qjn x K) (hk:k<x.Kinds.length):(K.testBit k=true→NegK x (k:Int) fun j=>j∈recS x K)∧(K.testBit k=false→¬NegK x (k:Int) fun j=>j∈recS x K):=by
 refine⟨fun hb=>(QoV hc hk (hg.2 k hk hb)).1.mono fun j _ hj=>Qgh.2 ⟨k,hk,hb,hj⟩,fun hb hn=>?_⟩;obtain⟨j,hj,hr⟩:=Qzx hn;obtain⟨k',hk',hb',hjc⟩:=Qgh.1 hr;have:=(Qi3 hc hk' hjc).2;have:k'=k:=by omega
 subst this;rw[hb] at hb';cases hb'
theorem w_kept {js:List Nat} {K m:Nat} (hg:Qjn x K) (hj:∀i,i∈js↔i∈wOf x K m):Qfj x (fun i=>js.contains i)=Qd1 x m K:=by
 refine QlT hc (fun i hi=>?_) (fun k hk=>?_)
 ·rw[ZZ,contains_iff_mem,hj,Qqn hi]
 ·have e:(fun j=>js.contains (nLim x+j)=true)=fun j=>j∈recS x K:=by
   funext j
   rw[contains_iff_mem,hj,Qoh]
  rw[e];exact QoW hc hg hk
theorem w_less {js:List Nat} {K m a:Nat} (h16:nLim x≤16) (hmin:MinM x K m) (ha:a∈wOf x K m) (hj:∀i,i∈js↔i∈wOf x K m∧i≠a):Qfj x (fun i=>js.contains i)=true:=by
 have hg:=hmin.bad.good;by_cases hlim:a<nLim x
 ·obtain⟨m',h1,h2⟩:=Qj5 (fun i=>m.testBit i&&decide (i≠a)) (nLim x);have e:Qfj x (fun i=>js.contains i)=Qd1 x m' K:=by
   refine QlT hc (fun i hi=>?_) (fun k hk=>?_)
   ·rw[h2 i hi,ZZ,contains_iff_mem,hj,Qqn hi];simp
   ·have e:(fun j=>js.contains (nLim x+j)=true)=fun j=>j∈recS x K:=by
     funext j
     rw[contains_iff_mem,hj,Qoh];exact propext ⟨fun h=>h.1,fun h=>⟨h,by omega⟩⟩
    rw[e];exact QoW hc hg hk
  rw[e]
  cases hp:Qd1 x m' K with
  | true=>rfl
  | false=>
   exfalso;have hle:=hmin.min K m' ⟨hg,h1,hp⟩;have hbit:=(Qqn hlim).1 ha;unfold QbH at hle;rw[←Qfd _ _ h16 h1,←Qfd _ _ h16 hmin.bad.lt] at hle;have hin:a∈setL (nLim x) m:=QfX.2 ⟨hlim,hbit⟩;have hl:=Qg0 (setL (nLim x) m') ((setL (nLim x) m).erase a) (QkT _ _) fun i hi=>by obtain⟨i1,i2⟩:=QfX.1 hi;rw[h2 i i1] at i2;simp only[Zg,Zj] at i2;exact ((QkT _ _).mem_erase_iff).2 ⟨i2.2,QfX.2 ⟨i1,i2.1⟩⟩
   rw[length_erase_of_mem hin] at hl;have:0<(setL (nLim x) m).length:=length_pos_of_mem hin;omega
 ·obtain⟨c,rfl⟩:∃c,a=nLim x+c:=⟨a - nLim x,by omega⟩;obtain⟨k0,hk0,hb0,hc0⟩:=Qgh.1 (Qoh.1 ha);obtain⟨K',h1,h2⟩:=Qj5 (fun k=>K.testBit k&&decide (k≠k0)) x.Kinds.length;have hg':Qjn x K':=⟨h1,fun k hk hb=>by
   rw[h2 k hk] at hb;simp only[Zg] at hb;exact hg.2 k hk hb.1⟩
  have e:Qfj x (fun i=>js.contains i)=Qd1 x m K':=by
   refine QlT hc (fun i hi=>?_) (fun k hk=>?_)
   ·rw[ZZ,contains_iff_mem,hj,Qqn hi];exact⟨fun h=>h.1,fun h=>⟨h,by omega⟩⟩
   ·have e:(fun j=>js.contains (nLim x+j)=true)=fun j=>j∈recS x K∧j≠c:=by
     funext j
     rw[contains_iff_mem,hj,Qoh];exact propext ⟨fun h=>⟨h.1,fun e=>h.2 (by rw[e])⟩,fun h=>⟨h.1,fun e=>h.2 (by omega)⟩⟩
    rw[e,h2 k hk];refine⟨fun hb=>?_,fun hb hn=>?_⟩
    ·simp only[Zg,Zj] at hb;refine (QoV hc hk (hg.2 k hk hb.1)).1.mono fun j hdk hj=>⟨Qgh.2 ⟨k,hk,hb.1,hj⟩,fun e=>?_⟩;have h3:=(Qi3 hc hk0 hc0).2;rw[←e,hdk] at h3;exact hb.2 (by omega)
    ·by_cases hbk:K.testBit k=true
     ·rw[hbk,Bool.true_and] at hb;have hkk:k=k0:=by simpa using hb
      subst hkk;refine (QoV hc hk (hg.2 k hk hbk)).2 c hc0 (hn.mono fun j hdk ⟨hj1,hj2⟩=>⟨?_,hj2⟩);obtain⟨k',hk',_,hjc⟩:=Qgh.1 hj1;have h3:=(Qi3 hc hk' hjc).2;have:k'=k:=by omega
      rw[←this];exact hjc
     ·exact (QoW hc hg hk).2 (by simpa using hbk) (hn.mono fun j _ h=>h.1)
  rw[e]
  cases hp:Qd1 x m K' with
  | true=>rfl
  | false=>
   exfalso;have hle:=hmin.min K' m ⟨hg',hmin.bad.lt,hp⟩;unfold QbH at hle;have hin:c∈recS x K:=Qoh.1 ha;have hl:=Qg0 (recS x K') ((recS x K).erase c) (Qjo hc _) fun i hi=>by obtain⟨k',hk',hb',hic⟩:=Qgh.1 hi;rw[h2 k' hk'] at hb';simp only[Zg,Zj] at hb';refine ((Qjo hc _).mem_erase_iff).2 ⟨fun e=>?_,Qgh.2 ⟨k',hk',hb'.1,hic⟩⟩;have h3:=(Qi3 hc hk' hic).2;have h4:=(Qi3 hc hk0 hc0).2;rw[e,h4] at h3;exact hb'.2 (by omega)
   rw[length_erase_of_mem hin] at hl;have:0<(recS x K).length:=length_pos_of_mem hin;omega
theorem QrR {K m:Nat} (h16:nLim x≤16) (h:BadM x K m):0<QbH x K m:=by
 rcases Nat.eq_zero_or_pos (QbH x K m) with h0 | h0
 ·exfalso;unfold QbH at h0;have h1:(setL (nLim x) m).length=0:=by rw[Qfd _ _ h16 h.lt];omega
  have h2:recS x K=[]:=ZO (by omega);have hK:∀k,k<x.Kinds.length→K.testBit k=false:=fun k hk=>by
   cases hb:K.testBit k with
   | false=>rfl
   | true=>
    have hne:=h.good.2 k hk hb
    cases hcy:cyc x k with
    | nil=>exact absurd hcy hne
    | cons c l=>have:c∈recS x K:=Qgh.2 ⟨k,hk,hb,by rw[hcy];exact Zk ..⟩;rw[h2] at this;cases this
  have hst:StOk x.Kinds.length (Qbp x) (Qhk x):=QkS hc;have hp:Qd1 x m K=true:=by
   unfold Qd1;rw[QlM (Qod hst.lim _) hst.refP];refine⟨replicate x.Kinds.length 0,by simp,fun z hz=>by rw[(mem_replicate.1 hz).2];omega,fun y hy=>?_,fun a b _ hp=>?_,fun k k0 k1 hE=>?_⟩
   ·obtain⟨i,hi,hb⟩:=QtI.1 hy;have:i∈setL (nLim x) m:=QfX.2 ⟨(Zf.1 hi).1,hb⟩;rw[ZO h1] at this;cases this
   ·exfalso;have:nth (replicate x.Kinds.length 0) a=0:=by
     unfold nth;rw[Zh,getElem?_replicate];split<;>rfl
    omega
   ·unfold nth;rw[Zh,getElem?_replicate];split<;>rfl
  rw[h.bad] at hp;cases hp
 ·exact h0
theorem Qzy (h:Qc6 x=false):∃K m,BadM x K m∧QbH x K m≤nLim x+(Qaz x).length∨16<nLim x:=by
 by_cases h16:nLim x≤16
 ·obtain⟨K,k1,k2⟩:=Qj5 (fun k=>!(cyc x k).isEmpty) x.Kinds.length;obtain⟨m,m1,m2⟩:=Qj5 (fun _=>true) (nLim x);refine⟨K,m,.inl ⟨⟨⟨k1,fun k hk hb e=>?_⟩,m1,?_⟩,?_⟩⟩
  ·rw[k2 k hk,e] at hb;cases hb
  ·rw[←h];unfold Qd1 Qc6;rw[QpL (p:=fun i=>m.testBit i) (q:=fun _=>true) (fun i hi=>m2 i hi)];refine QmN fun k hk=>?_;rw[Zr,k2 k hk];rfl
  ·unfold QbH;have h1:=QCg hc K;rw[←Qfd _ _ h16 m1];have h2:=length_filter_le (fun i=>m.testBit i) (range (nLim x));rw[Yo] at h2;unfold setL;omega
 ·exact⟨0,0,.inr (by omega)⟩
end
def nAll (x:Qa):Nat:=nLim x+(Qaz x).length
def Qis (x:Qa) (K:Nat) (R:List Nat) (s:List Nat) (m:Nat):List Nat⊕List Nat:=
 if (!s.isEmpty&&decide (R.length+ones m≥s.length))||decide (R.length+ones m>nAll x) then .inr s
 else if Qd1 x m K=true then .inl s else .inr (setL (nLim x) m++R.map fun c=>nLim x+c)
def goZ (f:List Nat→Nat→List Nat⊕List Nat):List Nat→List Nat→List Nat
 | [],s=>s
 | m::l,s=>match f s m with | .inl s'=>goZ f l s' | .inr s'=>s'
def QrS {x:Qa} (h16:nLim x≤16) {K:Nat} (hg:Qjn x K):∀(l:List Nat),l.Pairwise (fun a b=>ones a≤ones b)→(∀m∈l,m<2 ^ nLim x)→∀s:List Nat,
  (goZ (Qis x K (recS x K)) l s=s∧∀m∈l,Qd1 x m K=false→QbH x K m≤nAll x→s≠[]∧s.length≤QbH x K m)∨
  (∃m∈l,goZ (Qis x K (recS x K)) l s=wOf x K m∧Qd1 x m K=false∧QbH x K m≤nAll x∧(s=[]∨QbH x K m<s.length)∧∀m'∈l,Qd1 x m' K=false→QbH x K m≤QbH x K m')
 | [],_,_,s=>.inl ⟨rfl,fun m hm=>by cases hm⟩
 | m::l,hp,hl,s=>by
  obtain⟨hp1,hp2⟩:=pairwise_cons.1 hp;have hsz:∀m'∈m::l,ones m≤ones m':=fun m' hm'=>by
   rcases Zm.1 hm' with rfl | hm'
   ·exact Zx _
   ·exact hp1 m' hm'
  unfold goZ Qis;by_cases hstop:((!s.isEmpty&&decide ((recS x K).length+ones m≥s.length))||decide ((recS x K).length+ones m>nAll x))=true
  ·rw[Zc hstop];refine .inl ⟨rfl,fun m' hm' _ hle=>?_⟩;have:=hsz m' hm';unfold QbH at hle ⊢;simp only[Zz,Zg,Zj,Ym,isEmpty_eq_false_iff] at hstop;rcases hstop with⟨h1,h2⟩ | h1
   ·exact⟨h1,by omega⟩
   ·omega
  ·rw[Zd hstop];simp only[Zz,Zg,Zj,Ym,isEmpty_eq_false_iff,not_or,not_and] at hstop
   cases hpm:Qd1 x m K with
   | true=>
    rw[Zc rfl];dsimp only;rcases QrS h16 hg l hp2 (fun m hm=>hl m (Zl _ hm)) s with⟨h1,h2⟩ | ⟨m1,hm1,h1,h2,h3,h4,h5⟩
    ·refine .inl ⟨h1,fun m' hm' hb hle=>?_⟩;rcases Zm.1 hm' with rfl | hm'
     ·rw[hpm] at hb;cases hb
     ·exact h2 m' hm' hb hle
    ·refine .inr ⟨m1,Zl _ hm1,h1,h2,h3,h4,fun m' hm' hb=>?_⟩;rcases Zm.1 hm' with rfl | hm'
     ·rw[hpm] at hb;cases hb
     ·exact h5 m' hm' hb
   | false=>
    rw[Zd (by simp)];refine .inr ⟨m,Zk ..,rfl,hpm,?_,?_,fun m' hm' _=>?_⟩
    ·unfold QbH;omega
    ·by_cases hs:s=[]
     ·exact .inl hs
     ·have:=hstop.1 hs;refine .inr ?_;unfold QbH;omega
    ·have:=hsz m' hm';unfold QbH;omega
def recP (x:Qa) (K:Nat):List Nat:=(range x.Kinds.length).foldl (fun acc k=>if K.testBit k=true then (if (cyc x k).isEmpty then replicate (nAll x+1) 0 else acc++cyc x k) else acc) []
def QpN {x:Qa} {K:Nat} (h:∀k,k<x.Kinds.length→K.testBit k=true→cyc x k≠[]):recP x K=recS x K:=by
 have key:∀n,n≤x.Kinds.length→(range n).foldl (fun acc k=>if K.testBit k=true then (if (cyc x k).isEmpty then replicate (nAll x+1) 0 else acc++cyc x k) else acc) []=(range n).flatMap fun k=>if K.testBit k=true then cyc x k else []:=by
  intro n
  induction n with
  | zero=>intro _;rfl
  | succ n ih=>
   intro hn;rw[Yf,foldl_append,ZM,ih (by omega),Yt];simp only[foldl_cons,foldl_nil];by_cases hb:K.testBit n=true
   ·rw[Zc hb,Zc hb];have:=h n (by omega) hb;rw[Zd (by simpa using this)]
   ·rw[Zd hb,Zd hb,Yh]
 exact key _ (Zx _)
def QrT {x:Qa} {K k0:Nat} (h0:k0<x.Kinds.length) (hb:K.testBit k0=true) (he:cyc x k0=[]):nAll x<(recP x K).length:=by
 have key:∀n,k0<n→nAll x<((range n).foldl (fun acc k=>if K.testBit k=true then (if (cyc x k).isEmpty then replicate (nAll x+1) 0 else acc++cyc x k) else acc) []).length:=by
  intro n
  induction n with
  | zero=>intro h;omega
  | succ n ih=>
   intro hn;rw[Yf,foldl_append];simp only[foldl_cons,foldl_nil];by_cases hk:n=k0
   ·subst hk;rw[Zc hb,he,Zc (show ([]:List Nat).isEmpty=true from rfl),Yl];omega
   ·have:=ih (by omega);split
    ·split
     ·rw[Yl];omega
     ·rw[Zi];omega
    ·exact this
 exact key _ h0
def Qzz {x:Qa} (hc:QY x=[]) (K:Nat):(recP x K).length≤nAll x+1+200:=by
 have hn:=(Qav hc).kinds;have key:∀n,n≤x.Kinds.length→((range n).foldl (fun acc k=>if K.testBit k=true then (if (cyc x k).isEmpty then replicate (nAll x+1) 0 else acc++cyc x k) else acc) []).length≤nAll x+1+n * 12:=by
  intro n
  induction n with
  | zero=>intro _;simp
  | succ n ih=>
   intro hn;have:=ih (by omega);rw[Yf,foldl_append];simp only[foldl_cons,foldl_nil];split
   ·split
    ·rw[Yl];omega
    ·have h12:(cyc x n).length≤12:=by unfold cyc;rw[QoU];exact (Qoe hc (by omega) (by omega) _).1
     rw[Zi];omega
   ·omega
 have:=key _ (Zx _);unfold recP;omega
def goK (x:Qa) (s:List Nat) (K:Nat):List Nat:=goZ (Qis x K (recP x K)) (Qdw (nLim x)) s
def QCi {x:Qa} {K:Nat} (hg:¬Qjn x K) (hlt:K<2 ^ x.Kinds.length) (s:List Nat):goK x s K=s:=by
 have:∃k,k<x.Kinds.length∧K.testBit k=true∧cyc x k=[]:=Classical.byContradiction fun hn=>hg ⟨hlt,fun k hk hb he=>hn ⟨k,hk,hb,he⟩⟩;obtain⟨k,hk,hb,he⟩:=this;have hl:=QrT hk hb he;unfold goK
 cases hs:Qdw (nLim x) with
 | nil=>rfl
 | cons m l=>unfold goZ Qis;rw[Zc (by simp;omega)]
structure Qit (x:Qa) (P:List Nat) (s:List Nat):Prop where
 none:s=[]→∀K∈P,∀m,BadM x K m→nAll x<QbH x K m
 some:s≠[]→∃K m,BadM x K m∧s=wOf x K m∧QbH x K m≤nAll x∧∀K'∈P,∀m',BadM x K' m'→QbH x K m≤QbH x K' m'
def QrU {x:Qa} (hc:QY x=[]) (h16:nLim x≤16) {P s:List Nat} (h:Qit x P s) {K:Nat} (hK:K<2 ^ x.Kinds.length):Qit x (P++[K]) (goK x s K):=by
 by_cases hg:Qjn x K
 ·have hl:∀m∈Qdw (nLim x),m<2 ^ nLim x:=fun m hm=>(Qe3 h16).1 hm;have hgo:goK x s K=goZ (Qis x K (recS x K)) (Qdw (nLim x)) s:=by unfold goK;rw[QpN hg.2]
  rw[hgo];rcases QrS h16 hg (Qdw (nLim x)) (Qri _) hl s with⟨h1,h2⟩ | ⟨m,hm,h1,h2,h3,h4,h5⟩
  ·rw[h1];refine⟨fun hs K' hK' m hb=>?_,fun hs=>?_⟩
   ·rcases Zp.1 hK' with hK' | hK'
    ·exact h.none hs K' hK' m hb
    ·obtain rfl:=Ze.1 hK';rcases Nat.lt_or_ge (nAll x) (QbH x K' m) with hlt | hle
     ·exact hlt
     ·exact absurd hs (h2 m ((Qe3 h16).2 hb.lt) hb.bad hle).1
   ·obtain⟨K1,m1,b1,b2,b3,b4⟩:=h.some hs;refine⟨K1,m1,b1,b2,b3,fun K' hK' m' hb=>?_⟩;rcases Zp.1 hK' with hK' | hK'
    ·exact b4 K' hK' m' hb
    ·obtain rfl:=Ze.1 hK';rcases Nat.lt_or_ge (nAll x) (QbH x K' m') with hlt | hle
     ·omega
     ·have:=(h2 m' ((Qe3 h16).2 hb.lt) hb.bad hle).2;rw[b2,Qmu h16 b1.lt] at this;exact this
  ·have hbad:BadM x K m:=⟨hg,hl m hm,h2⟩;have hlen:=Qmu (x:=x) (K:=K) h16 hbad.lt;have hpos:=QrR hc h16 hbad;rw[h1];refine⟨fun hs=>?_,fun hs=>⟨K,m,hbad,rfl,h3,fun K' hK' m' hb=>?_⟩⟩
   ·rw[hs] at hlen;simp at hlen;omega
   ·rcases Zp.1 hK' with hK' | hK'
    ·rcases h4 with h4 | h4
     ·have:=h.none h4 K' hK' m' hb;omega
     ·obtain⟨K1,m1,b1,b2,b3,b4⟩:=h.some (fun e=>by rw[e] at h4;simp at h4);have:=b4 K' hK' m' hb;rw[b2,Qmu h16 b1.lt] at h4;omega
    ·obtain rfl:=Ze.1 hK';exact h5 m' ((Qe3 h16).2 hb.lt) hb.bad
 ·rw[QCi hg hK];refine⟨fun hs K' hK' m hb=>?_,fun hs=>?_⟩
  ·rcases Zp.1 hK' with hK' | hK'
   ·exact h.none hs K' hK' m hb
   ·obtain rfl:=Ze.1 hK';exact absurd hb.good hg
  ·obtain⟨K1,m1,b1,b2,b3,b4⟩:=h.some hs;refine⟨K1,m1,b1,b2,b3,fun K' hK' m' hb=>?_⟩;rcases Zp.1 hK' with hK' | hK'
   ·exact b4 K' hK' m' hb
   ·obtain rfl:=Ze.1 hK';exact absurd hb.good hg
def Qd2 (x:Qa):List Nat:=(Qdw x.Kinds.length).foldl (goK x) []
def QpO {x:Qa} (hc:QY x=[]) (h16:nLim x≤16):∀(l P s:List Nat),(∀K∈l,K<2 ^ x.Kinds.length)→Qit x P s→Qit x (P++l) (l.foldl (goK x) s)
 | [],P,s,_,h=>by rw[Yh];exact h
 | K::l,P,s,hl,h=>by have:=QpO hc h16 l (P++[K]) (goK x s K) (fun K hK=>hl K (Zl _ hK)) (QrU hc h16 h (hl K (Zk ..)));rw[ZW] at this;exact this
def QrV {x:Qa} (hc:QY x=[]) (h16:nLim x≤16) (hb:Qc6 x=false):∃K m,MinM x K m∧Qd2 x=wOf x K m∧QbH x K m≤nAll x:=by
 have hk6:=(Qav hc).kinds;have hB:Qit x (Qdw x.Kinds.length) (Qd2 x):=by
  have:=QpO hc h16 (Qdw x.Kinds.length) [] [] (fun K hK=>(Qe3 (by omega)).1 hK) ⟨fun _ K hK=>(by cases hK),fun h=>absurd rfl h⟩
  rwa [Yg] at this
 have hall:∀K m,BadM x K m→K∈Qdw x.Kinds.length:=fun K m h=>(Qe3 (by omega)).2 h.good.1;have hne:Qd2 x≠[]:=fun e=>by
  obtain⟨K,m,h | h⟩:=Qzy hc hb
  ·have:=hB.none e K (hall K m h.1) m h.1;have:=h.2;unfold nAll at *;omega
  ·omega
 obtain⟨K,m,h1,h2,h3,h4⟩:=hB.some hne;exact⟨K,m,⟨h1,fun K' m' hb=>h4 K' (hall K' m' hb) m' hb⟩,h2,h3⟩
def Qit.len {x:Qa} (h16:nLim x≤16) {P s:List Nat} (h:Qit x P s):s.length≤nAll x:=by
 by_cases e:s=[]
 ·rw[e];simp
 ·obtain⟨K,m,h1,h2,h3,_⟩:=h.some e;rw[h2,Qmu h16 h1.lt];exact h3
def QiC {x:Qa} (hc:QY x=[]):nAll x≤300:=by have hv:=Qav hc;have h1:=QgY hv;have h2:=Qm4 hv;rw[QpM] at h2;unfold nAll;omega
def Qi4 (s:List Nat):(ints s).isEmpty=s.isEmpty:=by unfold ints;cases s<;>rfl
def QbV (s:List Nat):(ints s).length=s.length:=by unfold ints;simp
def QrW (a b:List Nat):ints (a++b)=ints a++ints b:=by unfold ints;simp
def cycs (x:Qa):List (List Int):=(range x.Kinds.length).map fun k=>ints (cyc x k)
def QrX {x:Qa} {k:Nat} (hk:k<x.Kinds.length):idx (cycs x) (k:Int)=some (ints (cyc x k)):=by rw[QX (by unfold cycs;simpa using hk)];unfold cycs;simp
def QlU {n:Nat} (h:n≤16) {m:Nat} (hm:m<2 ^ n):m<2 ^ 64:=ZR hm (Nat.pow_le_pow_right (by omega) (by omega))
def QzA {x:Qa} (hc:QY x=[]) {K:Nat} (hK:K<2 ^ x.Kinds.length) {names:List Str} (hn:names.length=nAll x):
  (Ql (fun (s1114:Int×List Int)=>((if (decide (s1114.1<((x).Kinds.length:Int)))=true then (nn s1114.1).bind fun _=>((if ((iand .u64 (ishr .u64 (K:Int) s1114.1) (1:Int))==(1:Int))=true then (idx (cycs x) s1114.1).bind fun t73=>(rm (s1114.2.length+t73.length)).bind fun _=>(idx (cycs x) s1114.1).bind fun t78=>((if (t78.isEmpty)=true then (mk (i64.wrap ((names.length:Int)+(1:Int))) (0:Int)).bind fun t84=>(some t84) else (some (s1114.2++t73)))).bind fun (p1631:List Int)=>(some p1631) else (some s1114.2))).bind fun (p1618:List Int)=>(some (.inl ((i64.wrap (s1114.1+(1:Int))),p1618))) else (some (.inr s1114.2))):Option ((Int×List Int)⊕((List Int))))) ((0:Int),([]:List Int)))=some (ints (recP x K)):=by
 have hk6:=(Qav hc).kinds;have h300:=QiC hc
 let g:List Nat→Nat→List Nat:=fun acc k=>if K.testBit k=true then (if (cyc x k).isEmpty then replicate (nAll x+1) 0 else acc++cyc x k) else acc
 have hl:∀n,n≤x.Kinds.length→((range n).foldl g []).length≤301+n * 12:=by
  intro n
  induction n with
  | zero=>intro _;simp
  | succ n ih=>
   intro hn;have:=ih (by omega);rw[Yf,foldl_append];simp only[foldl_cons,foldl_nil];show (if K.testBit n=true then (if (cyc x n).isEmpty then replicate (nAll x+1) 0 else (range n).foldl g []++cyc x n) else (range n).foldl g []).length≤_;split
   ·split
    ·rw[Yl];omega
    ·have h12:(cyc x n).length≤12:=by unfold cyc;rw[QoU];exact (Qoe hc (by omega) (by omega) _).1
     rw[Zi];omega
   ·omega
 refine (Qcn x.Kinds.length (fun n=>((n:Int),ints ((range n).foldl g []))) (ints (recP x K)) (fun k hk=>?_) ?_)
 ·have hlk:=hl k (by omega);dsimp only;rw[Zc (by simpa using hk),show nn (k:Int)=some () by unfold nn;rw[Zc (by omega)]];simp only[Za];rw[QnU (QlU (by omega) hK) (by omega),QH hk (by omega),Yf,foldl_append];simp only[foldl_cons,foldl_nil];show _=some (Sum.inl (_,ints (if K.testBit k=true then (if (cyc x k).isEmpty then replicate (nAll x+1) 0 else (range k).foldl g []++cyc x k) else (range k).foldl g [])))
  cases hb:K.testBit k with
  | false=>rfl
  | true=>
   have h12:(cyc x k).length≤12:=by unfold cyc;rw[QoU];exact (Qoe hc (by omega) (by omega) _).1
   rw[Zc rfl,Zc rfl,QrX hk];simp only[Za];rw[Qb2 (by rw[QbV,QbV];omega)];simp only[Za];rw[Qi4]
   cases he:(cyc x k).isEmpty with
   | false=>simp[QrW]
   | true=>rw[Zc rfl,Zc rfl,hn,w64 (by omega) (by omega),show ((nAll x:Nat):Int)+1=((nAll x+1:Nat):Int) by omega,QiQ _ _ (by omega)];simp only[Za];unfold ints;rw[map_replicate];rfl
 ·dsimp only;rw[Zd (by simp)];rfl
def QCj {x:Qa} (h16:nLim x≤16) {m:Nat} (hm:m<2 ^ nLim x):
  (Ql (fun (s1551:Int×List Int)=>((if (decide (s1551.1<((Qbm x).limits.length:Int)))=true then (nn s1551.1).bind fun _=>((if ((iand .u64 (ishr .u64 (m:Int) s1551.1) (1:Int))==(1:Int))=true then (rm (s1551.2.length+[s1551.1].length)).bind fun _=>(some (s1551.2++[s1551.1])) else (some s1551.2))).bind fun (p1605:List Int)=>(some (.inl ((i64.wrap (s1551.1+(1:Int))),p1605))) else (some (.inr s1551.2))):Option ((Int×List Int)⊕((List Int))))) ((0:Int),([]:List Int)))=some (ints (setL (nLim x) m)):=by
 have hlen:(Qbm x).limits.length=nLim x:=rfl;rw[hlen];refine (QtJ (range (nLim x)) (fun i=>m.testBit i) (fun (i:Nat)=>(i:Int)) (fun k hk acc ha=>?_) (fun acc=>by rw[Yo];dsimp only;rw[Zd (by simp)])).trans rfl;rw[Yo] at hk;dsimp only;rw[Zc (by simpa using hk),show nn (k:Int)=some () by unfold nn;rw[Zc (by omega)]];simp only[Za];rw[QnU (QlU h16 hm) (by omega),QH hk (by omega),getElem_range]
 cases m.testBit k with
 | false=>rfl
 | true=>rw[Zc rfl,Zc rfl,Qb2 (by simp;omega)];rfl
def Qxt {Y:List Int→Int→Option (List Int⊕List Int)} {f:List Nat→Nat→List Nat⊕List Nat}:∀{l:List Nat} (_:∀m∈l,∀s,s.length≤1000→(∀s',f s m=.inl s'→Y (ints s) (m:Int)=some (.inl (ints s')))∧(∀s',f s m=.inr s'→Y (ints s) (m:Int)=some (.inr (ints s')))) (_:∀m∈l,∀s s',s.length≤1000→f s m=.inl s'→s'.length≤1000) (s:List Nat),s.length≤1000→
  goS Y l (ints s)=some (.inl (ints (goZ f l s)))∨goS Y l (ints s)=some (.inr (ints (goZ f l s)))
 | [],_,_,s,_=>.inl rfl
 | m::l,h,h2,s,hs=>by
  obtain⟨h3,h4⟩:=h m (Zk ..) s hs;rw[QhD];unfold goZ
  cases hf:f s m with
  | inl s'=>rw[h3 s' hf];exact Qxt (fun m hm=>h m (Zl _ hm)) (fun m hm=>h2 m (Zl _ hm)) s' (h2 m (Zk ..) s s' hs hf)
  | inr s'=>rw[h4 s' hf];exact .inr rfl
def QzB {x:Qa} (hc:QY x=[]) {R A:List Nat} (hR:∀c∈R,c≤1000) (hl:R.length≤1000) (hA:A.length≤1000):
  (Ql (fun (s1578:Int×List Int)=>((if (decide (s1578.1<((ints R).length:Int)))=true then (idx (ints R) s1578.1).bind fun t138=>(rm (s1578.2.length+[(i64.wrap (((Qbm x).limits.length:Int)+t138))].length)).bind fun _=>(some (.inl ((i64.wrap (s1578.1+(1:Int))),(s1578.2++[(i64.wrap (((Qbm x).limits.length:Int)+t138))])))) else (some (.inr s1578.2))):Option ((Int×List Int)⊕((List Int))))) ((0:Int),ints A))=some (ints (A++R.map fun c=>nLim x+c)):=by
 have hlen:(Qbm x).limits.length=nLim x:=rfl;have h300:=QiC hc;rw[hlen];refine (Qcn R.length (fun n=>((n:Int),ints (A++(R.take n).map fun c=>nLim x+c))) (ints (A++R.map fun c=>nLim x+c)) (fun k hk=>?_) ?_) |>.trans rfl |> fun h=>by simpa using h
 ·have hcm:=hR _ (Zn hk);have e1:(ints R)[k]'(by rw[QbV];exact hk)=((R[k]:Nat):Int):=by simp[ints]
  dsimp only;unfold nAll at h300;rw[QbV,Zc (by simpa using hk),QX (by rw[QbV];exact hk),e1];simp only[Za];rw[Qb2 (by rw[QbV];simp;omega),QH hk (by omega),w64 (by omega) (by omega)];simp only[Za];have e2:ints (A++(R.take (k+1)).map fun c=>nLim x+c)=ints (A++(R.take k).map fun c=>nLim x+c)++[(nLim x:Int)+(R[k]:Int)]:=by rw[Zu hk,ZV,←ZW,QrW (A++(R.take k).map fun c=>nLim x+c)];simp[ints]
  rw[e2]
 ·dsimp only;rw[QbV,Zd (by simp),take_length]
def Qxu {x:Qa} (hc:QY x=[]) (h16:nLim x≤16) {K:Nat} (hK:K<2 ^ x.Kinds.length) {names:List Str} (hn:names.length=nAll x) {s:List Nat} (hs:s.length≤1000):
  goS (fun (s1393:List Int) (m1394:Int)=>((Qcb m1394).bind fun t96=>(if (((!s1393.isEmpty)&&(decide ((i64.wrap (((ints (recP x K)).length:Int)+t96))≥(s1393.length:Int))))||(decide ((i64.wrap (((ints (recP x K)).length:Int)+t96))>(names.length:Int))))=true then (some (.inr s1393)) else (QaD (Qbm x) (fun x0=>Qeu x0 m1394) (fun x0=>Qev x0 (K:Int))).bind fun t115=>(if t115=true then (some (.inl s1393)) else (Ql (fun (s1551:Int×List Int)=>((if (decide (s1551.1<((Qbm x).limits.length:Int)))=true then (nn s1551.1).bind fun _=>((if ((iand .u64 (ishr .u64 m1394 s1551.1) (1:Int))==(1:Int))=true then (rm (s1551.2.length+[s1551.1].length)).bind fun _=>(some (s1551.2++[s1551.1])) else (some s1551.2))).bind fun (p1605:List Int)=>(some (.inl ((i64.wrap (s1551.1+(1:Int))),p1605))) else (some (.inr s1551.2))):Option ((Int×List Int)⊕((List Int))))) ((0:Int),([]:List Int))).bind fun (p1574:(List Int))=>(Ql (fun (s1578:Int×List Int)=>((if (decide (s1578.1<((ints (recP x K)).length:Int)))=true then (idx (ints (recP x K)) s1578.1).bind fun t138=>(rm (s1578.2.length+[(i64.wrap (((Qbm x).limits.length:Int)+t138))].length)).bind fun _=>(some (.inl ((i64.wrap (s1578.1+(1:Int))),(s1578.2++[(i64.wrap (((Qbm x).limits.length:Int)+t138))])))) else (some (.inr s1578.2))):Option ((Int×List Int)⊕((List Int))))) ((0:Int),p1574)).bind fun (p1591:(List Int))=>(some (.inr p1591)))):Option ((List Int)⊕(List Int)))) (Qdw (nLim x)) (ints s)=some (.inl (ints (goK x s K)))∨
  goS (fun (s1393:List Int) (m1394:Int)=>((Qcb m1394).bind fun t96=>(if (((!s1393.isEmpty)&&(decide ((i64.wrap (((ints (recP x K)).length:Int)+t96))≥(s1393.length:Int))))||(decide ((i64.wrap (((ints (recP x K)).length:Int)+t96))>(names.length:Int))))=true then (some (.inr s1393)) else (QaD (Qbm x) (fun x0=>Qeu x0 m1394) (fun x0=>Qev x0 (K:Int))).bind fun t115=>(if t115=true then (some (.inl s1393)) else (Ql (fun (s1551:Int×List Int)=>((if (decide (s1551.1<((Qbm x).limits.length:Int)))=true then (nn s1551.1).bind fun _=>((if ((iand .u64 (ishr .u64 m1394 s1551.1) (1:Int))==(1:Int))=true then (rm (s1551.2.length+[s1551.1].length)).bind fun _=>(some (s1551.2++[s1551.1])) else (some s1551.2))).bind fun (p1605:List Int)=>(some (.inl ((i64.wrap (s1551.1+(1:Int))),p1605))) else (some (.inr s1551.2))):Option ((Int×List Int)⊕((List Int))))) ((0:Int),([]:List Int))).bind fun (p1574:(List Int))=>(Ql (fun (s1578:Int×List Int)=>((if (decide (s1578.1<((ints (recP x K)).length:Int)))=true then (idx (ints (recP x K)) s1578.1).bind fun t138=>(rm (s1578.2.length+[(i64.wrap (((Qbm x).limits.length:Int)+t138))].length)).bind fun _=>(some (.inl ((i64.wrap (s1578.1+(1:Int))),(s1578.2++[(i64.wrap (((Qbm x).limits.length:Int)+t138))])))) else (some (.inr s1578.2))):Option ((Int×List Int)⊕((List Int))))) ((0:Int),p1574)).bind fun (p1591:(List Int))=>(some (.inr p1591)))):Option ((List Int)⊕(List Int)))) (Qdw (nLim x)) (ints s)=some (.inr (ints (goK x s K))):=by
 have hk6:=(Qav hc).kinds;have h300:=QiC hc;have hrl:=Qzz hc K;unfold goK;refine Qxt (f:=Qis x K (recP x K)) (fun m hm s hs=>?_) (fun m hm s s' hs h=>?_) s hs
 ·have hm2:=(Qe3 h16).1 hm;have hones:ones m≤16:=by
   rw[←Qfd _ _ h16 hm2];have:=length_filter_le (fun i=>m.testBit i) (range (nLim x));rw[Yo] at this;unfold setL;omega
  have hcond:((!(ints s).isEmpty)&&(decide ((i64.wrap (((ints (recP x K)).length:Int)+((ones m:Nat):Int)))≥((ints s).length:Int))))=(!s.isEmpty&&decide ((recP x K).length+ones m≥s.length)):=by rw[Qi4,QbV,QbV,w64 (by omega) (by omega)];congr 1;rw[ZZ];simp;omega
  have hcond2:decide ((i64.wrap (((ints (recP x K)).length:Int)+((ones m:Nat):Int)))>(names.length:Int))=decide ((recP x K).length+ones m>nAll x):=by rw[QbV,w64 (by omega) (by omega),hn,ZZ];simp;omega
  have hposs:QaD (Qbm x) (fun x0=>Qeu x0 (m:Int)) (fun x0=>Qev x0 (K:Int))=some (Qd1 x m K):=by
   refine (Qjz (s:=Qbm x) (n:=x.Kinds.length) rfl (QkS hc) (p:=fun i=>m.testBit i) (E:=fun k=>K.testBit k.toNat) (fun i hi=>?_) (fun k hk=>?_)).trans rfl
   ·have hi:i<nLim x:=hi;unfold Qeu;rw[show nn (i:Int)=some () by unfold nn;rw[Zc (by omega)]];simp only[Za];rw[QnU (QlU h16 hm2) (by omega)]
   ·unfold Qev;rw[show nn (k:Int)=some () by unfold nn;rw[Zc (by omega)]];simp only[Za];rw[QnU (QlU (by omega) hK) (by omega),Zr]
  rw[Qtp (QlU h16 hm2)];simp only[Za];rw[hcond,hcond2];unfold Qis;by_cases hstop:((!s.isEmpty&&decide ((recP x K).length+ones m≥s.length))||decide ((recP x K).length+ones m>nAll x))=true
  ·rw[Zc hstop,Zc hstop];exact⟨fun s' h=>(nomatch h),fun s' h=>by obtain rfl:=Sum.inr.inj h;rfl⟩
  ·rw[Zd hstop,Zd hstop,hposs];simp only[Za]
   cases hpm:Qd1 x m K with
   | true=>rw[Zc rfl,Zc rfl];exact⟨fun s' h=>by obtain rfl:=Sum.inl.inj h;rfl,fun s' h=>(nomatch h)⟩
   | false=>
    have hf:¬(false=true):=by decide
    rw[Zd hf,Zd hf,QCj h16 hm2];simp only[Za];have hgood:Qjn x K:=by refine Classical.byContradiction fun hg=>?_;have:∃k,k<x.Kinds.length∧K.testBit k=true∧cyc x k=[]:=Classical.byContradiction fun hn=>hg ⟨hK,fun k hk hb he=>hn ⟨k,hk,hb,he⟩⟩;obtain⟨k,hk,hb,he⟩:=this;have:=QrT hk hb he;apply hstop;simp;omega
    have hrec:=QpN hgood.2;have h1:∀c∈recP x K,c≤1000:=fun c hcm=>by rw[hrec] at hcm;have:=QrQ hc hcm;unfold nAll at h300;omega
    have h2:(setL (nLim x) m).length≤1000:=by rw[Qfd _ _ h16 hm2];omega
    rw[QzB hc h1 (by omega) h2];exact⟨fun s' h=>(nomatch h),fun s' h=>by obtain rfl:=Sum.inr.inj h;rfl⟩
 ·unfold Qis at h;split at h
  ·cases h
  ·split at h
   ·obtain rfl:=Sum.inl.inj h;exact hs
   ·cases h
def QrY {x:Qa} (hc:QY x=[]) (h16:nLim x≤16) {Y:List Int→Int→Option (List Int⊕List Int)} (hY:∀K:Nat,K<2 ^ x.Kinds.length→∀s:List Nat,s.length≤1000→Y (ints s) (K:Int)=some (.inl (ints (goK x s K)))):
  ∀(l P s:List Nat),(∀K∈l,K<2 ^ x.Kinds.length)→Qit x P s→goS Y l (ints s)=some (.inl (ints (l.foldl (goK x) s)))
 | [],_,_,_,_=>rfl
 | K::l,P,s,hl,h=>by have h300:=QiC hc;have hlen:=h.len h16;have hK:=hl K (Zk ..);rw[QhD,hY K hK s (by omega)];exact QrY hc h16 hY l (P++[K]) _ (fun K hK=>hl K (Zl _ hK)) (QrU hc h16 h hK)
def whyJ (x:Qa):List Nat:=(Qbk (ints (Qd2 x))).map Int.toNat
def Qjp (x:Qa):ints (whyJ x)=Qbk (ints (Qd2 x)):=by
 unfold whyJ ints;rw[Yw];have:∀z∈Qbk (ints (Qd2 x)),((fun (i:Nat)=>(i:Int)) ∘ Int.toNat) z=z:=fun z hz=>by have:=(QfW (ints (Qd2 x))).mem_iff.1 hz;unfold ints at this;obtain⟨i,_,rfl⟩:=ZC.1 this;rfl
 refine (map_congr_left this).trans ?_;rw[map_id'];rfl
def QrZ {x:Qa} {i:Nat}:i∈whyJ x↔i∈Qd2 x:=by
 have h:∀(l:List Nat) (i:Nat),(i:Int)∈ints l↔i∈l:=fun l i=>by
  unfold ints;rw[ZC];constructor
  ·rintro ⟨j,hj,e⟩;have:j=i:=by omega
   rw[←this];exact hj
  ·exact fun h=>⟨i,h,rfl⟩
 rw[←h (whyJ x),Qjp,(QfW _).mem_iff,h]
def Qr0 {x:Qa}:(whyJ x).length=(Qd2 x).length:=by have:=(QfW (ints (Qd2 x))).length_eq;rw[←Qjp,QbV,QbV] at this;exact this
def QsC {x:Qa} (hn:(Qd2 x).Nodup):(whyJ x).Pairwise (·< ·):=by
 have h1:=QjR (ints (Qd2 x));have h2:(ints (Qd2 x)).Nodup:=by unfold ints;show Pairwise _ _;rw[pairwise_map];exact hn.imp fun h e=>h (by omega)
 have h3:(Qbk (ints (Qd2 x))).Nodup:=(QfW _).nodup_iff.2 h2;have h4:(Qbk (ints (Qd2 x))).Pairwise (fun a b=>a<b):=(Pairwise.and h1 h3).imp fun⟨a,b⟩=>by omega
 rw[←Qjp] at h4;unfold ints at h4;rw[pairwise_map] at h4;exact h4.imp fun h=>by omega
def whyR (x:Qa):List Str×Int:=match QY x with
 | p::_=>([],p.Code)
 | []=>if nLim x>16 then ([],4) else if Qc6 x=true then ([],6) else ((whyJ x).map (Qh3 x),0)
def Qr1 {x:Qa} (hs:Qfh x):QfU x=some (whyR x):=by
 unfold QfU whyR;rw[Qru hs];unfold QnZ
 cases hc:QY x with
 | cons p l=>have:=QkH (x:=x) (p:=p) (by rw[hc];exact Zk ..);dsimp only[Option.bind_some];rw[Zc (by simpa using this)]
 | nil=>
  have hv:=Qav hc;have hk6:=hv.kinds;have h300:=QiC hc;dsimp only[Option.bind_some];rw[Zd (by simp),Qrx hs hc];simp only[Za];have hlen:(Qbm x).limits.length=nLim x:=rfl;by_cases h16:nLim x>16
  ·rw[Zc (decide_eq_true (by rw[hlen];omega)),Zc h16]
  ·rw[Zd (by rw[hlen];simp;omega),Zd h16,QiQ _ _ (by omega)];simp only[Za];refine QbT x.Kinds.length (fun n=>((n:Int),((range n).map fun k=>ints (cyc x k))++replicate (x.Kinds.length - n) ([]:List Int))) (cycs x) (by simp) (fun n hn'=>?_) ?_ ?_
   ·have hln:(((range n).map fun k=>ints (cyc x k))++replicate (x.Kinds.length - n) ([]:List Int)).length=x.Kinds.length:=by simp;omega
    dsimp only;rw[Yl,Zc (by simpa using hn'),Qj4 hc hn' (p:=fun _=>true) (fun j _=>rfl)];simp only[Za];rw[QgO (by rw[hln];exact hn')];simp only[Za];rw[QH hn' (by omega),set_append_right _ _ (by simp)];congr 3;have e2:x.Kinds.length - n=(x.Kinds.length - (n+1))+1:=by omega
    rw[e2,replicate_succ,ZT,Yo,Nat.sub_self,set_cons_zero,Yf,ZV,ZW];rfl
   ·dsimp only;rw[Yl,Zd (by simp),Nat.sub_self,replicate_zero,Yh];rfl
   ·have hbase:QaD (Qbm x) (fun x0=>QhU x0) (fun x0=>Qgq x0 (cycs x))=some (Qc6 x):=by
     refine (Qjz (s:=Qbm x) (n:=x.Kinds.length) rfl (QkS hc) (p:=fun _=>true) (E:=fun k=>!(cycN x k fun _=>true).isEmpty) (fun i _=>rfl) (fun k hk=>?_)).trans rfl;unfold Qgq;rw[QrX hk];simp only[Za];rw[Qi4];rfl
    rw[hbase];simp only[Za]
    cases hb:Qc6 x with
    | true=>rw[Zc rfl,Zc rfl]
    | false=>
     have hf:¬(false=true):=by decide
     rw[Zd hf,Zd hf,Qtr (by omega)];have hall:∀K∈Qdw x.Kinds.length,K<2 ^ x.Kinds.length:=fun K hK=>(Qe3 (by omega)).1 hK;have hW0:Qit x [] []:=⟨fun _ K hK=>(by cases hK),fun h=>absurd rfl h⟩;refine (ZF (Option.bind · _) (QrY hc (by omega) (fun K hK s hs=>?_) (Qdw x.Kinds.length) [] [] hall hW0)).trans ?_
     rotate_left
     ·simp only[Za];obtain⟨K,m,hmin,hbest,hsz⟩:=QrV hc (by omega) hb;have hlb:(Qd2 x).length≤300:=by rw[hbest,Qmu (by omega) hmin.bad.lt];omega
      have hin:∀i∈whyJ x,i<nLim x+(Qaz x).length:=fun i hi=>by rw[QrZ,hbest] at hi;exact w_lt hc hi
      have e0:QdJ (ints (foldl (goK x) [] (Qdw x.Kinds.length)))=some (ints (whyJ x)):=by
       unfold QdJ;rw[Qjp];have:(ints (Qd2 x)).length<4611686018427387904:=by rw[QbV];omega
       exact Zc this
      rw[e0];simp only[Za];rw[Qrh (ints (whyJ x)) (fun i=>Qh3 x i.toNat) (fun k hk acc ha=>?_) (fun acc=>by rw[Zd (by simp)])]
      ·simp only[Za];congr 2;unfold ints;rw[Yw];rfl
      ·rw[QbV] at hk;have e1:(ints (whyJ x))[k]'(by rw[QbV];exact hk)=(((whyJ x)[k]:Nat):Int):=by simp[ints]
       have h3:=hin _ (Zn hk);have hwl:=Qr0 (x:=x);dsimp only;rw[QbV,Zc (by simpa using hk),QX (by rw[QbV];exact hk),e1];simp only[Za];rw[QX (by rw[Qh2];exact h3)];simp only[Za];rw[Qb2 (by simp;omega),QH hk (by omega),Zr];simp only[Za];congr 4;unfold Qh3;rw[Zh,Zb (by rw[Qh2];exact h3)];rfl
     ·rw[QzA hc hK (names:=Qdr x) (Qh2 x)];simp only[Za];rw[Qtr (n:=(Qbm x).limits.length) (by rw[hlen];omega)];rcases Qxu hc (by omega) hK (names:=Qdr x) (Qh2 x) hs with h | h
      ·exact (ZF (fun r=>(Option.bind r _).bind _) h).trans rfl
      ·exact (ZF (fun r=>(Option.bind r _).bind _) h).trans rfl
def QoX {α:Type} (l:List α) (d:α):sel l (fun _=>true) d=l:=by unfold sel;have e:(range l.length).filter (fun _=>true)=range l.length:=filter_eq_self.2 fun _ _=>rfl;rw[e];refine ext_getElem (by simp) fun i h1 h2=>?_;simp[Zh,h2]
def Qxv {n:Int} (h:-9999999≤n∧n≤9999999):(Lib.itoa n).length≤8:=by
 unfold Lib.itoa;split
 ·have:=Qhh 6 n.natAbs (by omega);rw[ZB];omega
 ·have:=Qhh 6 n.toNat (by omega);omega
def VT:AnyV→Prop
 | .int n=>-9999999≤n∧n≤9999999
 | .str s=>s.length≤12
def text_t {v:AnyV} (h:VT v):(Qmk v).length≤12:=by
 cases v with
 | int n=>have:=Qxv h;show (Lib.itoa n).length≤12;omega
 | str s=>exact h
def toks_t {l:List AnyV} (h:∀v∈l,VT v):(toks l).length≤l.length * 13:=by
 induction l with
 | nil=>simp[toks]
 | cons v l ih=>have h1:=ih fun u hu=>h u (Zl _ hu);have h2:=text_t (h v Zk);have e:toks (v::l)=(32::Qmk v)++toks l:=rfl;rw[e,Zi,ZB,ZB];omega
def Qj6 {w:Str} {l:List AnyV} (h:∀v∈l,VT v):(QeF w l).length≤w.length+1+l.length * 13:=by have:=toks_t h;unfold QeF;rw[Zi,Zi,length_singleton];omega
def Qe1 {s:Str} (h:Q8 s=true):VT (.str s):=Qe4 h
def Qj7 {s:Str} (h:((s==[])||Q8 s)=true):VT (.str (Qdc s)):=by
 unfold Qdc;by_cases hs:s=[]
 ·rw[Zc hs];show ([45]:Str).length≤12;decide
 ·rw[Zd hs];have:Q8 s=true:=by simpa[hs] using h
  exact Qe1 this
def QbK {n:Int} (h:-9999999≤n∧n≤9999999):VT (.int n):=h
def QzC {f:Qc} (h:fieldS f=true) (hw3:f.Words.length≤3):(∀v∈Qag f,VT v)∧(Qag f).length≤8:=by
 unfold fieldS at h;simp only[Zg] at h;obtain⟨⟨hn,_⟩,hp⟩:=h;have hnv:=Qe1 hn;unfold Qd0 at hp;by_cases c0:f.Kind=0
 ·rw[Zc c0] at hp;have e:Qag f=[.str f.Name,.int f.Lo]:=by unfold Qag;rw[Zc c0]
  refine⟨?_,by rw[e];simp⟩;have:=QbU hp;rw[e];simp only[Zm,Zv,ZE,ZK,forall_eq];exact⟨hnv,QbK (by omega)⟩
 rw[Zd c0] at hp;by_cases c1:f.Kind=1
 ·rw[Zc c1] at hp;simp only[Zg] at hp;have e:Qag f=[.str f.Name,.str (Qdc f.Of),.int f.Lo,.int f.Hi]:=by unfold Qag;simp[c1]
  have:=Qcz hp.2;refine⟨?_,by rw[e];simp⟩;rw[e];simp only[Zm,Zv,ZE,ZK,forall_eq];exact⟨hnv,Qj7 (by rw[hp.1];simp),QbK (by omega),QbK (by omega)⟩
 rw[Zd c1] at hp;by_cases c2:f.Kind=2
 ·rw[Zc c2] at hp;have e:Qag f=[.str f.Name,.int f.Lo,.int f.Hi]:=by unfold Qag;simp[c2]
  have:=Qcz hp;refine⟨?_,by rw[e];simp⟩;rw[e];simp only[Zm,Zv,ZE,ZK,forall_eq];exact⟨hnv,QbK (by omega),QbK (by omega)⟩
 rw[Zd c2] at hp;by_cases c3:f.Kind=3
 ·rw[Zc c3] at hp;simp only[Qih,Zg,Zt,Ye] at hp;obtain⟨hg,⟨⟨hw,hl⟩,_⟩,hws⟩:=hp;have hw':=(QbU hw).2;have hl':f.Words.length=f.Weights.length:=by omega
  have e:Qag f=[.str f.Name,.int (f.Words.length:Int)]++(f.Words.zip f.Weights).flatMap fun p=>[.str p.1,.int p.2]:=by unfold Qag;simp[c3]
  refine⟨?_,?_⟩
  ·rw[e];intro v hv;rcases Zp.1 hv with hv | hv
   ·simp only[Zm,Zv,ZE] at hv;rcases hv with rfl | rfl
    ·exact hnv
    ·exact QbK (by omega)
   ·obtain⟨p,hp,hv⟩:=ZG.1 hv;obtain⟨a,b⟩:=p;have hz:=of_mem_zip hp;simp only[Zm,Zv,ZE] at hv;rcases hv with rfl | rfl
    ·exact Qe1 (hws _ hz.1)
    ·have:=QbU (hg _ hz.2);exact QbK (by omega)
  ·rw[e,Zi,QlG,length_zip];simp only[ZB,ZS];omega
 rw[Zd c3] at hp;by_cases c4:f.Kind=4
 ·rw[Zc c4] at hp;simp only[Zg] at hp;have e:Qag f=[.str f.Name,.str (Qdc f.Of),.int f.Lo,.int f.Hi]:=by unfold Qag;simp[c4]
  have:=Qcz hp.2;refine⟨?_,by rw[e];simp⟩;rw[e];simp only[Zm,Zv,ZE,ZK,forall_eq];exact⟨hnv,Qj7 hp.1,QbK (by omega),QbK (by omega)⟩
 rw[Zd c4] at hp;by_cases c5:f.Kind=5
 ·rw[Zc c5] at hp;simp only[Zg] at hp;have e:Qag f=[.str f.Name,.str (Qdc f.Of),.int f.Lo,.int f.Hi]:=by unfold Qag;simp[c5]
  have:=Qcz hp.2;refine⟨?_,by rw[e];simp⟩;rw[e];simp only[Zm,Zv,ZE,ZK,forall_eq];exact⟨hnv,Qj7 (by rw[hp.1];simp),QbK (by omega),QbK (by omega)⟩
 rw[Zd c5] at hp;by_cases c6:f.Kind=6
 ·rw[Zc c6] at hp;have e:Qag f=[.str f.Name,.str f.Of]:=by unfold Qag;simp[c6]
  refine⟨?_,by rw[e];simp⟩;rw[e];simp only[Zm,Zv,ZE,ZK,forall_eq];exact⟨hnv,Qe1 hp⟩
 rw[Zd c6] at hp;by_cases c7:f.Kind=7
 ·rw[Zc c7] at hp;simp only[Zg] at hp;have e:Qag f=[.str f.Name,.str f.Up,.str f.Of,.int f.Lo,.int f.Hi]:=by unfold Qag;simp[c7]
  have:=Qcz hp.2;refine⟨?_,by rw[e];simp⟩;rw[e];simp only[Zm,Zv,ZE,ZK,forall_eq];exact⟨hnv,Qe1 hp.1.2,Qe1 hp.1.1,QbK (by omega),QbK (by omega)⟩
 rw[Zd c7] at hp;by_cases c8:f.Kind=8
 ·rw[Zc c8] at hp;simp only[Zg] at hp;have e:Qag f=[.str f.Name,.str f.Up,.str f.Of]:=by unfold Qag;simp[c8]
  refine⟨?_,by rw[e];simp⟩;rw[e];simp only[Zm,Zv,ZE,ZK,forall_eq];exact⟨hnv,Qe1 hp.2,Qe1 hp.1⟩
 rw[Zd c8] at hp;cases hp
def QsD {f:Qc} (h:fieldS f=true) (hw:f.Words.length≤3):(QdD f).length≤115:=by obtain⟨h1,h2⟩:=QzC h hw;have:=Qj6 (w:=QkG f) h1;have:=(QlH (Qjh h).kind).2.2;unfold QdD;omega
structure Tiny (x:Qa):Prop where
 kinds:x.Kinds.length≤3
 words:∀k∈x.Kinds,∀f∈k.Fields,f.Words.length≤3
 lives:x.Lives.length≤1
 life:∀l∈x.Lives,l.States.length≤4∧l.Moves.length≤5
 rules:x.Rules.length≤2
def kind_t {k:Qg} (h:kindS k=true) (hw:∀f∈k.Fields,f.Words.length≤3):(QeZ k).length≤1200:=by
 simp only[kindS,Zg,Zt,Zj] at h;obtain⟨⟨⟨h1,h2⟩,h3⟩,h4⟩:=h;have:=Qcz h2;have hv:∀v∈[AnyV.str k.Name,.int k.Lo,.int k.Hi],VT v:=by simp only[Zm,Zv,ZE,ZK,forall_eq];exact⟨Qe1 h1,QbK (by omega),QbK (by omega)⟩
 have e1:=Qj6 (w:=[107,105,110,100]) hv;have e2:=Qff (l:=k.Fields) (g:=QdD) (B:=115) fun f hf=>QsD (h4 f hf) (hw f hf);unfold QeZ;rw[Zi];simp only[ZB,ZS] at e1;omega
def life_t {l:QB} (h:Qge l=true) (hs:l.States.length≤4) (hm:l.Moves.length≤5):(Qfy l).length≤300:=by
 simp only[Qge,Zg,Zt,Zj] at h;obtain⟨⟨⟨⟨h1,h2⟩,h3⟩,h4⟩,h5⟩:=h;have hl:=(QbU h2).2;have hv:∀v∈[AnyV.str l.Name,.int (l.States.length:Int)]++l.States.map .str,VT v:=fun v hv=>by
  rcases Zp.1 hv with hv | hv
  ·simp only[Zm,Zv,ZE] at hv;rcases hv with rfl | rfl
   ·exact Qe1 h1
   ·exact QbK (by omega)
  ·obtain⟨s,hs,rfl⟩:=ZC.1 hv;exact Qe1 (h3 s hs)
 have hmv:∀m∈l.Moves,(QgW m).length≤31:=fun m hm=>by have h6:=h5 m hm;simp only[QeE,Zg] at h6;have a1:=QbU h6.1;have a2:=QbU h6.2;have:=Qj6 (w:=[109,111,118,101]) (l:=[AnyV.int m.a0,.int m.a1]) (by simp only[Zm,Zv,ZE,ZK,forall_eq];exact⟨QbK (by omega),QbK (by omega)⟩);simp only[ZB,ZS] at this;unfold QgW;omega
 have e1:=Qj6 (w:=[108,105,102,101]) hv;have e2:=Qff hmv;unfold Qfy;rw[Zi];simp only[Zi,ZB,ZS,ZT] at e1;omega
def rule_t {r:Qo} (h:QcQ r=true):(QgX r).length≤70:=by simp only[QcQ,Zg] at h;obtain⟨⟨⟨⟨⟨h1,h2⟩,h3⟩,h4⟩,_⟩,h5⟩:=h;have:=QbU h5;have:=Qj6 (w:=[114,117,108,101]) (l:=Qen r) (by unfold Qen;simp only[Zm,Zv,ZE,ZK,forall_eq];exact⟨Qe1 h1,Qe1 h2,Qj7 h3,Qj7 h4,QbK (by omega)⟩);have e:(Qen r).length=5:=rfl;simp only[ZB,ZS] at this;unfold QgX;omega
def QuQ {x:Qa} (h:Tiny x) (hv:Qfr x=true):Qgw x=0:=by obtain⟨t1,t2,t3,t4,t5⟩:=h;have hok:=QlI hv;have e0:=Qj6 (w:=[115,99,104,101,109,97]) (l:=[AnyV.int x.Version]) (by simp only[Zm,Zv,ZE,forall_eq];have:=hok.version;exact QbK (by omega));have e1:=Qff (l:=x.Kinds) (g:=QeZ) (B:=1200) fun k hk=>kind_t (hok.kind k hk) (t2 k hk);have e2:=Qff (l:=x.Lives) (g:=Qfy) (B:=300) fun l hl=>life_t (hok.life l hl) (t4 l hl).1 (t4 l hl).2;have e3:=Qff (l:=x.Rules) (g:=QgX) (B:=70) fun r hr=>rule_t (hok.rule r hr);simp only[ZB,ZS] at e0;unfold Qgw;rw[Zc hv,Zd];unfold srcS;simp only[Zi];omega
def VF (f:Qc):Prop:=fieldS f=true∧f.Words.length≤3∧(-1000≤f.Lo∧f.Lo≤1000)∧(-1000≤f.Hi∧f.Hi≤1000)
def KV (n:Nat) (k:Qg):Prop:=k.Fields.length≤n∧(∀f∈k.Fields,VF f)∧Q8 k.Name=true∧(0≤k.Lo∧k.Lo≤k.Hi∧k.Hi≤65536)
def KV.weak {a b:Nat} {k:Qg} (h:KV a k) (hab:a≤b):KV b k:=⟨Yu h.1 hab,h.2⟩
def QiD {lo hi a b:Int} (h:a≤lo∧lo≤hi∧hi≤b):QfE lo hi a b=true:=by unfold QfE;simp only[Zg,Zj];omega
def Qhl {n a b:Int} (h:a≤n∧n≤b):inW n a b=true:=by unfold inW;simp only[Zg,Zj];omega
section
variable {n o u:Str} {lo hi:Int}
theorem vf_key (hn:Q8 n=true) (h:-1000≤lo∧lo≤1000):VF ⟨n,[],[],0,lo,0,[],[]⟩:=by refine⟨?_,by simp,h,by simp⟩;have:=Qhl (n:=lo) (a:=-1048576) (b:=1048576) (by omega);simp[fieldS,QeD,QeC,Qd0,hn,this]
theorem Qr2 (hn:Q8 n=true) (ho:Q8 o=true) (h:0≤lo∧lo≤hi∧hi≤1000):VF ⟨n,o,[],1,lo,hi,[],[]⟩:=by refine⟨?_,by simp,by dsimp only;omega,by dsimp only;omega⟩;have:=QiD (lo:=lo) (hi:=hi) (a:=0) (b:=65536) (by omega);simp[fieldS,QeD,QeC,Qd0,hn,ho,this]
theorem Qr3 (hn:Q8 n=true) (h:-1000≤lo∧lo≤hi∧hi≤1000):VF ⟨n,[],[],2,lo,hi,[],[]⟩:=by refine⟨?_,by simp,by dsimp only;omega,by dsimp only;omega⟩;have:=QiD (lo:=lo) (hi:=hi) (a:=-1048576) (b:=1048576) (by omega);simp[fieldS,QeD,QeC,Qd0,hn,this]
theorem QCk {w:List Str} {g:List Int} (hn:Q8 n=true) (h:Qih w g=true) (hw:w.length≤3):VF ⟨n,[],[],3,0,0,w,g⟩:=by refine⟨?_,hw,by simp,by simp⟩;simp[fieldS,QeD,QeC,Qd0,hn,h]
theorem Qxw (hn:Q8 n=true) (ho:((o==[])||Q8 o)=true) (h:-1000≤lo∧lo≤hi∧hi≤1000):VF ⟨n,o,[],4,lo,hi,[],[]⟩:=by refine⟨?_,by simp,by dsimp only;omega,by dsimp only;omega⟩;have:=QiD (lo:=lo) (hi:=hi) (a:=-1048576) (b:=1048576) (by omega);simp[fieldS,QeD,QeC,Qd0,hn,this];simpa using ho
theorem QCl (hn:Q8 n=true) (ho:Q8 o=true) (h:0≤lo∧lo≤hi∧hi≤32):VF ⟨n,o,[],5,lo,hi,[],[]⟩:=by refine⟨?_,by simp,by dsimp only;omega,by dsimp only;omega⟩;have:=QiD (lo:=lo) (hi:=hi) (a:=0) (b:=32) (by omega);simp[fieldS,QeD,QeC,Qd0,hn,ho,this]
theorem vf_sum (hn:Q8 n=true) (ho:Q8 o=true):VF ⟨n,o,[],6,0,0,[],[]⟩:=by refine⟨?_,by simp,by simp,by simp⟩;simp[fieldS,QeD,QeC,Qd0,hn,ho]
theorem QzD (hn:Q8 n=true) (ho:Q8 o=true) (hu:Q8 u=true) (h:0≤lo∧lo≤hi∧hi≤1000):VF ⟨n,o,u,7,lo,hi,[],[]⟩:=by refine⟨?_,by simp,by dsimp only;omega,by dsimp only;omega⟩;have:=QiD (lo:=lo) (hi:=hi) (a:=0) (b:=1048576) (by omega);simp[fieldS,QeD,QeC,Qd0,hn,ho,hu,this]
theorem QCm (hn:Q8 n=true) (ho:Q8 o=true) (hu:Q8 u=true):VF ⟨n,o,u,8,0,0,[],[]⟩:=by refine⟨?_,by simp,by simp,by simp⟩;simp[fieldS,QeD,QeC,Qd0,hn,ho,hu]
end
def VF.name {f:Qc} (h:VF f):Q8 f.Name=true:=by have:=h.1;unfold fieldS at this;simp only[Zg] at this;exact this.1.1
def QtN {m:Qn} (hm:MOk m):Ok (QaT m) (fun r=>r.1.length≤2∧(∀f∈r.1,VF f)∧MOk r.2):=by
 unfold QaT;refine Ok.take hm (by decide) fun r m1 _ _ h1=>?_;refine Ok.ite (fun _=>?_) (fun _=>?_)
 ·refine Ok.take h1 (by decide) fun r2 m2 a2 b2 h2=>Ok.take h2 (by decide) fun r3 m3 a3 b3 h3=>Ok.mk ⟨by simp,?_,h3⟩;dsimp only;rw[w64 (n:=r2 - 5) (by omega) (by omega),w64 (n:=r2 - 5+r3) (by omega) (by omega)];intro f hf;rw[Ze] at hf;subst hf;exact Qr3 (by decide) (by omega)
 refine Ok.ite (fun _=>?_) (fun _=>?_)
 ·refine Ok.take h1 (by decide) fun r2 m2 h20 h21 h2=>?_;have hr2:i64.wrap (1+r2)=1+r2:=w64 (by omega) (by omega);refine Ok.sub (by decide) (by dsimp only;rw[hr2];omega) (by dsimp only;rw[hr2];simp;omega) fun w hw hwm=>?_;dsimp only at hw;rw[hr2] at hw;have hwl:1≤w.length∧w.length≤3:=by omega
  have hws:w.all Q8=true:=by rw[Zt];intro s hs;have:=hwm s hs;simp only[Zm,Zv,ZE] at this;rcases this with rfl | rfl | rfl<;>decide
  refine Ok.bind (P:=fun r=>(r.1.length=w.length∧∀g∈r.1,0≤g∧g≤10)∧MOk r.2) (Ok.loop (fun k s=>0≤s.1∧s.1+k=w.length∧s.2.1.length=s.1∧(∀g∈s.2.1,0≤g∧g≤10)∧MOk s.2.2) w.length ⟨Zy _,by simp,by simp,by simp,h2⟩ fun k s hs=>?_) (fun p hp=>?_)
  ·obtain⟨i,ws,m3⟩:=s;obtain⟨e1,e2,e3,e5,e4⟩:=hs;dsimp only at e1 e2 e3 e4 e5;refine Ok.ite (fun h=>?_) (fun h=>?_)
   ·have h':i<w.length:=ZA h;refine Ok.take e4 (by decide) fun r4 m4 a4 b4 h4=>Ok.rm (by simp;omega) (Ok.mk ?_);dsimp only;rw[w64 (by omega) (by omega)];refine⟨k - 1,by omega,by omega,by omega,by simp;omega,fun g hg=>?_,h4⟩;rcases Zp.1 hg with hg | hg
    ·exact e5 g hg
    ·rw[Ze] at hg;omega
   ·have h':¬i<w.length:=ZL h;exact Ok.mk ⟨⟨by dsimp only;omega,e5⟩,e4⟩
  ·obtain⟨⟨p1,p2⟩,p3⟩:=hp;refine Ok.take p3 (by omega) fun r4 m4 h40 h41 h4=>Ok.take h4 (by decide) fun r5 m5 a5 b5 h5=>?_;refine Ok.setAt h40 (by dsimp only;omega) (Ok.mk ⟨by simp,?_,h5⟩);dsimp only;rw[w64 (n:=1+r5) (by omega) (by omega)];intro f hf;rw[Ze] at hf;subst hf;have hall:∀g∈p.1.set r4.toNat (1+r5),0≤g∧g≤10:=fun g hg=>by
    rcases mem_or_eq_of_mem_set hg with hg | hg
    ·exact p2 g hg
    ·omega
   have hmem:(1+r5)∈p.1.set r4.toNat (1+r5):=mem_set (by omega) _;have hsum:∀l:List Int,(∀g∈l,0≤g∧g≤10)→∀v∈l,v≤l.sum∧0≤l.sum:=fun l=>by
    induction l with
    | nil=>intro _ v hv;cases hv
    | cons a l ih=>
     intro hl v hv;have ha:=hl a Zk;have hs:0≤l.sum:=by
      have:∀l:List Int,(∀g∈l,0≤g∧g≤10)→0≤l.sum:=fun l=>by
       induction l with
       | nil=>intro _;simp
       | cons b l ih2=>intro h;have h1:=h b Zk;have h2:=ih2 fun g hg=>h g (Zl _ hg);simp only[sum_cons];omega
      exact this l fun g hg=>hl g (Zl _ hg)
     simp only[sum_cons];rcases Zm.1 hv with rfl | hv
     ·omega
     ·have:=(ih (fun g hg=>hl g (Zl _ hg)) v hv).1;omega
   refine QCk (by decide) ?_ (by omega);unfold Qih;simp only[Zg,Zt,Ye,Zj];refine⟨fun g hg=>Qhl (by have:=hall g hg;omega),⟨⟨Qhl (by omega),by rw[Yv];omega⟩,?_⟩,fun s hs=>Zt.1 hws s hs⟩;have:=(hsum _ hall _ hmem).1;omega
 refine Ok.ite (fun _=>?_) (fun _=>?_)
 ·refine Ok.take h1 (by decide) fun r2 m2 a2 b2 h2=>Ok.take h2 (by decide) fun r3 m3 a3 b3 h3=>Ok.take h3 (by decide) fun r4 m4 a4 b4 h4=>Ok.take h4 (by decide) fun r5 m5 a5 b5 h5=>Ok.mk ⟨by simp,?_,h5⟩;dsimp only;rw[w64 (n:=r2 - 200) (by omega) (by omega),w64 (n:=r2 - 200+r3) (by omega) (by omega),w64 (n:=3+r5) (by omega) (by omega)];intro f hf;simp only[Zm,Zv,ZE] at hf;rcases hf with rfl | rfl
  ·exact Qxw (by decide) (by decide) (by omega)
  ·exact Qxw (by decide) (by decide) (by omega)
 refine Ok.ite (fun _=>?_) (fun _=>?_)
 ·refine Ok.take h1 (by decide) fun r2 m2 a2 b2 h2=>Ok.take h2 (by decide) fun r3 m3 a3 b3 h3=>Ok.mk ⟨by simp,?_,h3⟩;dsimp only;rw[w64 (n:=r2+r3) (by omega) (by omega)];intro f hf;rw[Ze] at hf;subst hf;exact QCl (by decide) (by decide) (by omega)
 refine Ok.ite (fun _=>?_) (fun _=>?_)
 ·refine Ok.take h1 (by decide) fun r2 m2 a2 b2 h2=>Ok.take h2 (by decide) fun r3 m3 a3 b3 h3=>Ok.take h3 (by decide) fun r4 m4 a4 b4 h4=>Ok.take h4 (by decide) fun r5 m5 a5 b5 h5=>Ok.mk ⟨by simp,?_,h5⟩;dsimp only;rw[w64 (n:=5+r3) (by omega) (by omega),w64 (n:=10+r5) (by omega) (by omega)];intro f hf;simp only[Zm,Zv,ZE] at hf;rcases hf with rfl | rfl
  ·exact Qr3 (by decide) (by omega)
  ·exact Qr3 (by decide) (by omega)
 ·exact Ok.mk ⟨by simp,by simp,h1⟩
abbrev Sg:=Str×Int×Str×Str
def sg (f:Qc):Sg:=(f.Name,f.Kind,f.Of,f.Up)
def sSize:Sg:=([115,105,122,101],2,[],[])
def sTag:Sg:=([116,97,103],3,[],[])
def QuR:Sg:=([98,111,114,110],4,[],[])
def sLeft:Sg:=([108,101,102,116],4,[98,111,114,110],[])
def Qxx:Sg:=([115,116,97,116,101],5,[108,105,102,101],[])
def sLow:Sg:=([108,111,119],2,[],[])
def sHigh:Sg:=([104,105,103,104],2,[],[])
def Qbc:List (List Sg):=[[],[sSize],[sTag],[QuR,sLeft],[Qxx],[sLow,sHigh]]
def Ok.and {α:Type} {x:Option α} {P Q:α→Prop} (h:Ok x P) (k:Ok x Q):Ok x (fun r=>P r∧Q r):=by obtain⟨r,e,p⟩:=h;obtain⟨s,f,q⟩:=k;rw[e] at f;cases f;exact⟨r,e,p,q⟩
def QtO {m:Qn} (hm:MOk m):Ok (QaT m) (fun r=>r.1.map sg∈Qbc∧MOk r.2):=by
 unfold QaT;refine Ok.take hm (by decide) fun r m1 _ _ h1=>?_;refine Ok.ite (fun _=>?_) (fun _=>?_)
 ·exact Ok.take h1 (by decide) fun r2 m2 a2 b2 h2=>Ok.take h2 (by decide) fun r3 m3 a3 b3 h3=>Ok.mk ⟨by simp[Qbc,sg,sSize],h3⟩
 refine Ok.ite (fun _=>?_) (fun _=>?_)
 ·refine Ok.take h1 (by decide) fun r2 m2 h20 h21 h2=>?_;have hr2:i64.wrap (1+r2)=1+r2:=w64 (by omega) (by omega);refine Ok.sub (by decide) (by dsimp only;rw[hr2];omega) (by dsimp only;rw[hr2];simp;omega) fun w hw hwm=>?_;dsimp only at hw;rw[hr2] at hw;have hwl:1≤w.length∧w.length≤3:=by omega
  refine Ok.bind (P:=fun r=>r.1.length=w.length∧MOk r.2) (Ok.loop (fun k s=>0≤s.1∧s.1+k=w.length∧s.2.1.length=s.1∧MOk s.2.2) w.length ⟨Zy _,by simp,by simp,h2⟩ fun k s hs=>?_) (fun p hp=>?_)
  ·obtain⟨i,ws,m3⟩:=s;obtain⟨e1,e2,e3,e4⟩:=hs;dsimp only at e1 e2 e3 e4;refine Ok.ite (fun h=>?_) (fun h=>?_)
   ·have h':i<w.length:=ZA h;refine Ok.take e4 (by decide) fun r4 m4 a4 b4 h4=>Ok.rm (by simp;omega) (Ok.mk ?_);dsimp only;rw[w64 (by omega) (by omega)];exact⟨k - 1,by omega,by omega,by omega,by simp;omega,h4⟩
   ·have h':¬i<w.length:=ZL h;exact Ok.mk ⟨by dsimp only;omega,e4⟩
  ·obtain⟨p1,p3⟩:=hp;refine Ok.take p3 (by omega) fun r4 m4 h40 h41 h4=>Ok.take h4 (by decide) fun r5 m5 a5 b5 h5=>?_;exact Ok.setAt h40 (by dsimp only;omega) (Ok.mk ⟨by simp[Qbc,sg,sTag],h5⟩)
 refine Ok.ite (fun _=>?_) (fun _=>?_)
 ·exact Ok.take h1 (by decide) fun r2 m2 a2 b2 h2=>Ok.take h2 (by decide) fun r3 m3 a3 b3 h3=>Ok.take h3 (by decide) fun r4 m4 a4 b4 h4=>Ok.take h4 (by decide) fun r5 m5 a5 b5 h5=>Ok.mk ⟨by simp[Qbc,sg,QuR,sLeft],h5⟩
 refine Ok.ite (fun _=>?_) (fun _=>?_)
 ·exact Ok.take h1 (by decide) fun r2 m2 a2 b2 h2=>Ok.take h2 (by decide) fun r3 m3 a3 b3 h3=>Ok.mk ⟨by simp[Qbc,sg,Qxx],h3⟩
 refine Ok.ite (fun _=>?_) (fun _=>?_)
 ·exact Ok.take h1 (by decide) fun r2 m2 a2 b2 h2=>Ok.take h2 (by decide) fun r3 m3 a3 b3 h3=>Ok.take h3 (by decide) fun r4 m4 a4 b4 h4=>Ok.take h4 (by decide) fun r5 m5 a5 b5 h5=>Ok.mk ⟨by simp[Qbc,sg,sLow,sHigh],h5⟩
 ·exact Ok.mk ⟨by simp[Qbc],h1⟩
def Qqo {l:List Qc} {name:Str} (hl:l.length≤1000):Ok (Qc3 l name) (fun r=>(-1≤r∧r<l.length)∧(r<0→∀f∈l,f.Name≠name)∧(0≤r→∃f∈l,f.Name=name)):=by
 unfold Qc3;refine Ok.bind (P:=fun e=>match e with | .inl _=>∀f∈l,f.Name≠name | .inr r=>(0≤r∧r<l.length)∧∃f∈l,f.Name=name) (Ok.loop (fun k s=>0≤s∧s+k=l.length∧∀f∈l.take s.toNat,f.Name≠name) l.length ⟨by omega,by omega,by simp⟩ fun k s hs=>?_) (fun e he=>?_)
 ·obtain⟨h0,h1,h2⟩:=hs;refine Ok.ite (fun h=>?_) (fun h=>Ok.mk ?_)
  ·have h':s<l.length:=ZA h;refine Ok.idx h0 h' fun v hm hv=>Ok.ite (fun he=>Ok.mk ⟨⟨h0,h'⟩,v,hm,by simpa using he⟩) (fun hne=>Ok.mk ?_);rw[w64 (by omega) (by omega)];refine⟨k - 1,by omega,by omega,by omega,?_⟩;rw[show (s+1).toNat=s.toNat+1 by omega,take_add_one,hv];intro f hf;rcases Zp.1 hf with hf | hf
   ·exact h2 f hf
   ·simp only[Option.toList_some,Ze] at hf;subst hf;simpa using hne
  ·have h':¬s<l.length:=ZL h;show ∀f∈l,f.Name≠name;rw[ZD (by omega)] at h2;exact h2
 ·rcases e with e | e
  ·exact Ok.mk ⟨⟨by omega,by omega⟩,fun _=>he,fun h=>by omega⟩
  ·exact Ok.mk ⟨⟨by omega,he.1.2⟩,fun h=>by omega,fun _=>he.2⟩
def QzE {k:Qg} (hl:k.Fields.length≤1000):Ok (Qdi k) (fun r=>(-1≤r∧r<k.Fields.length)∧(0≤r→∃f,k.Fields[r.toNat]?=some f∧f.Kind≠0∧f.Kind≠1∧f.Kind≠6∧f.Kind≠7)):=by
 unfold Qdi;refine Ok.bind (P:=fun e=>match e with | .inl _=>True | .inr r=>(0≤r∧r<k.Fields.length)∧∃f,k.Fields[r.toNat]?=some f∧f.Kind≠0∧f.Kind≠1∧f.Kind≠6∧f.Kind≠7) (Ok.loop (fun n s=>0≤s∧s+n=k.Fields.length) k.Fields.length ⟨by omega,by omega⟩ fun n s hs=>?_) (fun e he=>?_)
 ·refine Ok.ite (fun h=>?_) (fun h=>Ok.mk trivial);have h':s<k.Fields.length:=ZA h;refine Ok.idx hs.1 h' fun v _ hv=>Ok.ite (fun hk=>Ok.mk ⟨⟨hs.1,h'⟩,v,hv,?_⟩) (fun _=>Ok.mk ?_)
  ·simp only[Zg,bne_iff_ne,YB] at hk;exact⟨hk.1.1.1,hk.1.1.2,hk.1.2,hk.2⟩
  ·rw[w64 (by omega) (by omega)];exact⟨n - 1,by omega,by omega,by omega⟩
 ·rcases e with e | e
  ·exact Ok.mk ⟨⟨by omega,by omega⟩,fun h=>by omega⟩
  ·exact Ok.mk ⟨⟨by omega,he.1.2⟩,fun _=>he.2⟩
abbrev Ks:=Str×List Sg
def ks (k:Qg):Ks:=(k.Name,k.Fields.map sg)
def nOf:Str:=[111,102]
def QgB:Str:=[116,111,116,97,108]
def sId:Sg:=([105,100],0,[],[])
def sOf (n:Str):Sg:=(nOf,1,n,[])
def Qiu (n:Str):Sg:=([115,97,109,101],8,n,nOf)
def Qhm:Sg:=([112,97,114,116],7,QgB,nOf)
def Qhn (n:Str):Sg:=(QgB,6,n,[])
def sBy (n:Str):Sg:=([98,121],1,n,[])
def PreS (T:List Ks) (nm:Str) (F:List Sg) (T':List Ks):Prop:=
 (T.length=0∧F=[sId]∧T'=T)∨
 ∃(to:Nat) (t:Ks) (cp pt:List Sg),T[to]?=some t∧F=sId::sOf t.1::(cp++pt)∧
  (cp=[]∨∃g∈t.2,(g.2.1≠0∧g.2.1≠1∧g.2.1≠6∧g.2.1≠7)∧cp=[Qiu g.1])∧
  ((pt=[]∧T'=T)∨((∀g∈t.2,g.1≠QgB)∧pt=[Qhm]∧T'=T.set to (t.1,t.2++[Qhn nm])))
def Qd3 (T:List Ks) (q:Ks) (T':List Ks):Prop:=∃(F by' p1 p2:List Sg),PreS T q.1 F T'∧(by'=[]∨(1<T.length∧∃t,T'[0]?=some t∧by'=[sBy t.1]))∧p1∈Qbc∧(p2=[]∨(p2∈Qbc∧∀g,p2[0]?=some g→∀f∈F++by'++p1,f.1≠g.1))∧q.2=F++by'++p1++p2

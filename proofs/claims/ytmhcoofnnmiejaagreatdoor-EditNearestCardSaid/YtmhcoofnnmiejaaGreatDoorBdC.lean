/- Package bounds. No condition. -/
import Derived.Test.YtmhcoofnnmiejaaGreatDoorEdN
set_option linter.all false
open List Go.IntKind
namespace Go.Proofs.YtmhcoofnnmiejaaGreatDoor
open Go.Sim
variable {vs:List Int} {i:Nat} {j:Nat} {v:Int} {V:Wd} {M:Nat} {w:Int} {E:List QH} {A:Nat->Nat->Nat->Prop}
def wild (x:Int):Bool:=decide (x< -1099511627776)||decide (x>1099511627776)
def Qjl (m:Nat) (r:List Int):Bool:=(r.length !=m)||r.any wild
def badT (c:List (List Int)) (vs:List Int):Bool:=(decide (c.length=0)||decide (c.length>11))||(vs.any wild||c.any (Qjl c.length))
def QaZ (c:List (List Int)) (vs:List Int) (j:Nat):Nat:=if j=vs.length then c.length - 1 else j
def QdG (vs:List Int) (j:Nat):Int:=(vs++[0]).getD j 0
def loF (c:List (List Int)) (vs:List Int) (M:Nat):List Int:=(range M).filterMap λj=>if at2B c (QaZ c vs j) vs.length<1099511627776 then some (i64.wrap (QdG vs j - at2B c (QaZ c vs j) vs.length)) else none
def hiF (c:List (List Int)) (vs:List Int) (M:Nat):List Int:=(range M).filterMap λj=>if at2B c vs.length (QaZ c vs j)<1099511627776 then some (i64.wrap (QdG vs j+at2B c vs.length (QaZ c vs j))) else none
def loB (c:List (List Int)) (vs:List Int) (M:Nat):Bool×Int:=best imax (-1099511627776) (loF c vs M)
def hiB (c:List (List Int)) (vs:List Int) (M:Nat):Bool×Int:=best imin 1099511627776 (hiF c vs M)
def QbM (c:List (List Int)) (vs:List Int):Int×Int×Int:=
 if badT c vs=true then (0,0,1) else if (decide ((vs.length:Int)>=(c.length:Int) - 1))=true then (0,0,6) else
  if (decide ((loB c vs (vs.length+1)).2>(hiB c vs (vs.length+1)).2))=true then (0,0,14) else ((loB c vs (vs.length+1)).2,(hiB c vs (vs.length+1)).2,0)
def Qph (c:List (List Int)) (vs:List Int) (M:Nat):loF c vs (M+1)=loF c vs M++(if at2B c (QaZ c vs M) vs.length<1099511627776 then [i64.wrap (QdG vs M - at2B c (QaZ c vs M) vs.length)] else []):=by unfold loF;rw[Yp,filterMap_append];congr 1;simp only[filterMap_cons,filterMap_nil];split<;>rename_i h<;>split at h<;>simp_all
def Qpi (c:List (List Int)) (vs:List Int) (M:Nat):hiF c vs (M+1)=hiF c vs M++(if at2B c vs.length (QaZ c vs M)<1099511627776 then [i64.wrap (QdG vs M+at2B c vs.length (QaZ c vs M))] else []):=by unfold hiF;rw[Yp,filterMap_append];congr 1;simp only[filterMap_cons,filterMap_nil];split<;>rename_i h<;>split at h<;>simp_all
def QvJ (c:List (List Int)) (vs:List Int) (M:Nat):(loF c vs M).length<=M:=by have:=length_filterMap_le (λj=>if at2B c (QaZ c vs j) vs.length<1099511627776 then some (i64.wrap (QdG vs j - at2B c (QaZ c vs j) vs.length)) else none) (range M);simpa[loF] using this
def QvK (c:List (List Int)) (vs:List Int) (M:Nat):(hiF c vs M).length<=M:=by have:=length_filterMap_le (λj=>if at2B c vs.length (QaZ c vs j)<1099511627776 then some (i64.wrap (QdG vs j+at2B c vs.length (QaZ c vs j))) else none) (range M);simpa[hiF] using this
def bad_sq {c:List (List Int)} (h:¬badT c vs=true):Sq c.length c/\1<=c.length/\c.length<=11:=by simp only[badT,Qjl,ZJ,Zs,not_or,Yl,not_exists,not_and,Yq] at h;obtain⟨⟨d,e⟩,_,a⟩:=h;refine⟨⟨rfl,λr b=>?_⟩,by omega,by omega⟩;have:=(a r b).1;simpa using this
def QB7 (c:List (List Int)) (vs:List Int) (N:c.length<1000000) (O:vs.length<1000000) (D:∀r∈c,r.length<1000000):Qg0 c vs=some (QbM c vs):=by
 unfold Qg0;have F:i64.wrap ((c.length:Int) - 1)=(c.length:Int) - 1:=w64 (by omega) (by omega);have s:i64.wrap ((c.length:Int) - 1+1)=(c.length:Int):=by rw[w64 (by omega) (by omega)];omega
 rw[F];have t:QaO vs (λx=>Qcu x)=some (vs.any wild):=Qg2 vs _ wild (λx _=>rfl) (by omega);have u:Qbq c (λx=>QfB x ((c.length:Int) - 1) (λx=>Qcu x))=some (c.any (Qjl c.length)):=by
  refine Qm2 c _ _ (λr y=>?_) (by omega);unfold QfB;rw[s,Qg2 r (λx=>Qcu x) wild (λx _=>rfl) (by have:=D r y;omega)];have e:((r.length:Int) !=(c.length:Int))=(r.length !=c.length):=by rw[Yx];simp;omega
  unfold Qjl;rw[e];cases (r.length !=c.length)<;>rfl
 rw[t,u];have e1:(decide ((c.length:Int) - 1<0)||decide ((c.length:Int) - 1>10))=(decide (c.length=0)||decide (c.length>11)):=by rw[Yx];simp only[ZJ,Zs];omega
 rw[e1];have key:((opt ((decide (c.length=0)||decide (c.length>11))==false) (some (vs.any wild)) default).bind λt30=>
   (opt (((decide (c.length=0)||decide (c.length>11))||t30)==false) (some (c.any (Qjl c.length))) default).bind λt35=>(some (((decide (c.length=0)||decide (c.length>11))||t30)||t35):Option Bool))=some (badT c vs):=by
  unfold badT;cases (decide (c.length=0)||decide (c.length>11))<;>cases vs.any wild<;>cases c.any (Qjl c.length)<;>rfl
 have f:∀(g:Bool->Option (Int×Int×Int)),((opt ((decide (c.length=0)||decide (c.length>11))==false) (some (vs.any wild)) default).bind λt30=>
   (opt (((decide (c.length=0)||decide (c.length>11))||t30)==false) (some (c.any (Qjl c.length))) default).bind λt35=>g (((decide (c.length=0)||decide (c.length>11))||t30)||t35))=g (badT c vs):=by
  intro g;unfold badT;cases (decide (c.length=0)||decide (c.length>11))<;>cases vs.any wild<;>cases c.any (Qjl c.length)<;>rfl
 clear key;refine Eq.trans (f (λb=>if b=true then _ else _)) ?_;unfold QbM;by_cases hb:badT c vs=true
 ·rw[Zc hb,Zc hb]
 ·rw[Zb hb,Zb hb];obtain⟨o,P,H⟩:=bad_sq hb;by_cases p:(vs.length:Int)>=(c.length:Int) - 1
  ·rw[Zc (by simpa using p),Zc (by simpa using p)]
  ·rw[Zb (by simpa using p),Zb (by simpa using p),Qzp vs (by omega)];simp only[Za];rw[QdX (by simp;omega)];simp only[Za];refine QdA (vs.length+1) (λj=>((j:Int),hiF c vs j,loF c vs j)) (hiF c vs (vs.length+1),loF c vs (vs.length+1)) rfl ?_ ?_ ?_
   ·intro j B;have m:j<(vs++[0]).length:=by simpa using B
    simp only;rw[Zc (by simp;omega),QY m];simp only[Za];have z:(vs++[(0:Int)])[j]=QdG vs j:=by unfold QdG;rw[Zh,Zd m];rfl
    rw[z];have n:(if ((j:Int)==(vs.length:Int))=true then some ((c.length:Int) - 1) else some (j:Int))=some ((QaZ c vs j:Nat):Int):=by
     unfold QaZ;by_cases h:j=vs.length
     ·rw[Zc (by simp;omega),Zc h];congr 1;omega
     ·rw[Zb (by simp;omega),Zb h]
    rw[n];simp only[Za];have a:QaZ c vs j<c.length:=by unfold QaZ;split<;>omega
    have d:vs.length<c.length:=by omega
    rw[(o.idx a).1,(o.idx d).1];simp only[Za];rw[o.idx2 a d,o.idx2 d a];simp only[Za];have a1:=QvJ c vs j;have a2:=QvK c vs j;have e2:(if decide (at2B c (QaZ c vs j) vs.length<1099511627776)=true then (rm ((loF c vs j).length+[i64.wrap (QdG vs j - at2B c (QaZ c vs j) vs.length)].length)).bind λ_=>some (loF c vs j++[i64.wrap (QdG vs j - at2B c (QaZ c vs j) vs.length)]) else some (loF c vs j))=some (loF c vs (j+1)):=by
     rw[Qph];by_cases h:at2B c (QaZ c vs j) vs.length<1099511627776
     ·rw[Zc (by simpa using h),Zc h,QdX (by simp;omega)];rfl
     ·rw[Zb (by simpa using h),Zb h,Yc]
    have I:(if decide (at2B c vs.length (QaZ c vs j)<1099511627776)=true then (rm ((hiF c vs j).length+[i64.wrap (QdG vs j+at2B c vs.length (QaZ c vs j))].length)).bind λ_=>some (hiF c vs j++[i64.wrap (QdG vs j+at2B c vs.length (QaZ c vs j))]) else some (hiF c vs j))=some (hiF c vs (j+1)):=by
     rw[Qpi];by_cases h:at2B c vs.length (QaZ c vs j)<1099511627776
     ·rw[Zc (by simpa using h),Zc h,QdX (by simp;omega)];rfl
     ·rw[Zb (by simpa using h),Zb h,Yc]
    rw[e2];simp only[Za];rw[I];simp only[Za];rw[QD B (by omega)]
   ·simp only;rw[Zb (by simp)]
   ·simp only;have K:∀(l:List Int),l.length<=1000000->(if decide ((l.length:Int)>0)=true then (Qeh l).bind λt99=>some t99 else some (-1099511627776))=some (best imax (-1099511627776) l).2:=by
     intro l hl
     cases l with
     | nil=>rfl
     | cons x xs=>rw[Zc (by simp),max_eq x xs (by simp at hl;omega),Qls];rfl
    have L:∀(l:List Int),l.length<=1000000->(if decide ((l.length:Int)>0)=true then (Qei l).bind λt99=>some t99 else some 1099511627776)=some (best imin 1099511627776 l).2:=by
     intro l hl
     cases l with
     | nil=>rfl
     | cons x xs=>rw[Zc (by simp),min_eq x xs (by simp at hl;omega),Qls];rfl
    rw[K _ (by have:=QvJ c vs (vs.length+1);omega)];simp only[Za];rw[L _ (by have:=QvK c vs (vs.length+1);omega)];simp only[Za];unfold loB hiB;split<;>rfl
def QB8 (a b:Int):imax a b=a\/imax a b=b:=by unfold imax;split<;>simp
def QB9 (a b:Int):imin a b=a\/imin a b=b:=by unfold imin;split<;>simp
def QtM {x:Int}:wild x=false↔-1099511627776<=x/\x<=1099511627776:=by unfold wild;simp only[Bool.or_eq_false_iff,ZI];omega
def QtN {c:List (List Int)} (h:¬badT c vs=true):(∀x∈vs,wild x=false)/\∀r∈c,r.length=c.length/\∀x∈r,wild x=false:=by
 have a:badT c vs=false:=by simpa using h
 unfold badT at a;simp only[Bool.or_eq_false_iff] at a;obtain⟨_,b,d⟩:=a;refine⟨λx hx=>by simpa using any_eq_false.1 b x hx,λr e=>?_⟩;have:=any_eq_false.1 d r e;unfold Qjl at this;simp only[ZJ,not_or,Yq,any_eq_false] at this;exact⟨by simpa using this.1,λx hx=>by simpa using this.2 x hx⟩
def QzP {c:List (List Int)} (h:¬badT c vs=true) (i k:Nat):-1099511627776<=at2B c i k/\at2B c i k<=1099511627776:=by
 unfold at2B;rw[Zh,Zh]
 cases hi:c[i]? with
 | none=>simp
 | some r=>
  simp only[ZQ]
  cases a:r[k]? with
  | none=>simp
  | some x=>exact QtM.1 (((QtN h).2 r (Zl hi)).2 x (Zl a))
def QtO {c:List (List Int)} (h:¬badT c vs=true) (j:Nat):-1099511627776<=QdG vs j/\QdG vs j<=1099511627776:=by
 unfold QdG;rw[Zh]
 cases a:(vs++[0])[j]? with
 | none=>simp
 | some x=>
  have:=Zl a;rcases ZB.1 this with hx | hx
  ·exact QtM.1 ((QtN h).1 x hx)
  ·obtain rfl:=Zg.1 hx;simp
def QFA {c:List (List Int)} {x:Int} (h:x∈loF c vs M):∃j,j<M/\at2B c (QaZ c vs j) vs.length<1099511627776/\x=i64.wrap (QdG vs j - at2B c (QaZ c vs j) vs.length):=by
 induction M with
 | zero=>unfold loF at h;simp at h
 | succ M a=>
  rw[Qph] at h;rcases ZB.1 h with h | h
  ·obtain⟨j,b,r⟩:=a h;exact⟨j,by omega,r⟩
  ·split at h
   ·exact⟨M,by omega,by assumption,Zg.1 h⟩
   ·cases h
def QFB {c:List (List Int)} {x:Int} (h:x∈hiF c vs M):∃j,j<M/\at2B c vs.length (QaZ c vs j)<1099511627776/\x=i64.wrap (QdG vs j+at2B c vs.length (QaZ c vs j)):=by
 induction M with
 | zero=>unfold hiF at h;simp at h
 | succ M a=>
  rw[Qpi] at h;rcases ZB.1 h with h | h
  ·obtain⟨j,b,r⟩:=a h;exact⟨j,by omega,r⟩
  ·split at h
   ·exact⟨M,by omega,by assumption,Zg.1 h⟩
   ·cases h
def QrI {c:List (List Int)} (h:(QbM c vs).2.2=0):¬badT c vs=true/\vs.length+1<c.length/\(QbM c vs).1=(loB c vs (vs.length+1)).2/\(QbM c vs).2.1=(hiB c vs (vs.length+1)).2/\(loB c vs (vs.length+1)).2<=(hiB c vs (vs.length+1)).2:=by
 unfold QbM at h ⊢;by_cases a:badT c vs=true
 ·rw[Zc a] at h;simp at h
 ·rw[Zb a] at h ⊢;by_cases b:decide ((vs.length:Int)>=(c.length:Int) - 1)=true
  ·rw[Zc b] at h;simp at h
  ·rw[Zb b] at h ⊢;by_cases d:decide ((loB c vs (vs.length+1)).2>(hiB c vs (vs.length+1)).2)=true
   ·rw[Zc d] at h;simp at h
   ·rw[Zb d];simp only[Zs] at b d;exact⟨a,by omega,rfl,rfl,by omega⟩
def QrJ {n:Int} {l:List QH} (h:(Qgg n l).2=0):∃m:Nat,n=(m:Int) - 1/\QdK m l/\Qcx n l=0/\negB m (tP m l)=false/\(Qgg n l).1=tab m (tP m l):=by
 unfold Qgg at h ⊢;by_cases a:Qcx n l=0
 ·obtain⟨m,rfl,hm⟩:=QtK a;have e:((m:Int) - 1+1).toNat=m:=by omega
  rw[Zb (by simpa using a),e] at h ⊢;by_cases b:negB m (tP m l)=true
  ·rw[Zc b] at h;simp at h
  ·rw[Zb b];exact⟨m,rfl,hm,a,by simpa using b,rfl⟩
 ·rw[Zc a] at h;exact (a h).elim
def QzQ {m:Nat} {l:List QH} (a:QdK m l):Qcx ((m:Int) - 1) l=0:=by have e:=a.m1;have f:=a.m11;have g:=a.len;unfold Qcx;rw[Zb (by simp;omega),Zb (by simp;omega),Zb];intro h;obtain⟨d,b,hb⟩:=Yl.1 h;obtain⟨a1,a2,a3,a4,a5,a6,a7⟩:=a.ok d b;unfold badD at hb;simp only[ZJ,Zs,Yf] at hb;omega
def QnX {m:Nat} {l:List QH} (a:QdK m l):Qgg ((m:Int) - 1) l=if negB m (tP m l)=true then ([],14) else (tab m (tP m l),0):=by unfold Qgg;rw[Zb (by rw[QzQ a];simp),show ((m:Int) - 1+1).toNat=m by omega]
structure Small (m:Nat) (G:Nat->Nat->Int):Prop where
 m2:2<=m
 m6:m<=6
 lo:∀i k,i<m->k<m->-2097152<=G i k
 hi:∀i k,i<m->k<m->G i k<=INF
 fin:∀i k,i<m->k<m->G i k<INF->G i k<=2097152
 diag:∀i,i<m->0<=G i i
def Seen (m k i:Nat):Prop:=i<k\/i=m - 1
def vv (m:Nat) (vs:List Int) (i:Nat):Int:=if i=m - 1 then 0 else vs.getD i 0
structure Kept (m:Nat) (G:Nat->Nat->Int) (B:Int) (vs:List Int):Prop where
 b0:0<=B
 b1:B<=1000000000
 bd:∀x∈vs,-B<=x/\x<=B
 ok:∀i j,Seen m vs.length i->Seen m vs.length j->G i j<INF->vv m vs i<=vv m vs j+G i j
def QvL {m:Nat} {G:Nat->Nat->Int} {k:Nat} (hi:i<m) (a:k<m):at2B (tab m G) i k=G i k:=by unfold at2B tab rowL;rw[Zh,Zh];simp[hi,a]
def QkJ {m:Nat} {G:Nat->Nat->Int} (h:vs.length+1<m) (b:j<vs.length+1):Seen m vs.length (QaZ (tab m G) vs j)/\QaZ (tab m G) vs j<m/\QdG vs j=vv m vs (QaZ (tab m G) vs j):=by
 unfold QaZ QdG vv Seen;rw[Qfn];by_cases a:j=vs.length
 ·rw[Zc a,Zc rfl];refine⟨.inr rfl,by omega,?_⟩;rw[a,Zh];simp
 ·rw[Zb a,Zb (by omega)];refine⟨.inl (by omega),by omega,?_⟩;rw[Zh,Zh,Zv (by omega)]
def QvM {m:Nat} {G:Nat->Nat->Int} (h:vs.length+1<m) (hi:Seen m vs.length i):∃j,j<vs.length+1/\QaZ (tab m G) vs j=i:=by
 unfold QaZ;rw[Qfn];rcases hi with a | a
 ·exact⟨i,by omega,Zb (by omega)⟩
 ·exact⟨vs.length,by omega,by rw[Zc rfl,a]⟩
def loF_in {c:List (List Int)} (b:j<M) (hf:at2B c (QaZ c vs j) vs.length<1099511627776):i64.wrap (QdG vs j - at2B c (QaZ c vs j) vs.length)∈loF c vs M:=by
 induction M with
 | zero=>omega
 | succ M a=>
  rw[Qph];by_cases h:j=M
  ·subst h;rw[Zc hf];exact mem_append_right _ (Zg.2 rfl)
  ·exact mem_append_left _ (a (by omega))
def hiF_in {c:List (List Int)} (b:j<M) (hf:at2B c vs.length (QaZ c vs j)<1099511627776):i64.wrap (QdG vs j+at2B c vs.length (QaZ c vs j))∈hiF c vs M:=by
 induction M with
 | zero=>omega
 | succ M a=>
  rw[Qpi];by_cases h:j=M
  ·subst h;rw[Zc hf];exact mem_append_right _ (Zg.2 rfl)
  ·exact mem_append_left _ (a (by omega))
def QCa:∀(l:List Int) (x:Int),(∀y∈x::l,y<=l.foldl imax x)/\l.foldl imax x∈x::l:=by
 intro l
 induction l with
 | nil=>intro x;exact⟨λy hy=>by obtain rfl:=Zg.1 hy;exact Zx _,Zq ..⟩
 | cons z l b=>
  intro x;rw[foldl_cons];obtain⟨a,d⟩:=b (imax x z);have hm:x<=imax x z/\z<=imax x z:=by unfold imax;split<;>omega
  have h0:=a _ (Zq ..);refine⟨λy hy=>?_,?_⟩
  ·rcases Zp.1 hy with rfl | hy
   ·omega
   ·rcases Zp.1 hy with rfl | hy
    ·omega
    ·exact a y (Zz _ hy)
  ·rcases Zp.1 d with h | h
   ·rw[h];rcases QB8 x z with e | e<;>rw[e]<;>simp
   ·exact Zz _ (Zz _ h)
def QCb:∀(l:List Int) (x:Int),(∀y∈x::l,l.foldl imin x<=y)/\l.foldl imin x∈x::l:=by
 intro l
 induction l with
 | nil=>intro x;exact⟨λy hy=>by obtain rfl:=Zg.1 hy;exact Zx _,Zq ..⟩
 | cons z l b=>
  intro x;rw[foldl_cons];obtain⟨a,d⟩:=b (imin x z);have hm:imin x z<=x/\imin x z<=z:=by unfold imin;split<;>omega
  have h0:=a _ (Zq ..);refine⟨λy hy=>?_,?_⟩
  ·rcases Zp.1 hy with rfl | hy
   ·omega
   ·rcases Zp.1 hy with rfl | hy
    ·omega
    ·exact a y (Zz _ hy)
  ·rcases Zp.1 d with h | h
   ·rw[h];rcases QB9 x z with e | e<;>rw[e]<;>simp
   ·exact Zz _ (Zz _ h)
def QtP {d:Int} {l:List Int} (h:l≠[]):(∀y∈l,y<=(best imax d l).2)/\(best imax d l).2∈l:=by
 cases l with
 | nil=>exact (h rfl).elim
 | cons x l=>rw[Qls];exact QCa l x
def QtQ {d:Int} {l:List Int} (h:l≠[]):(∀y∈l,(best imin d l).2<=y)/\(best imin d l).2∈l:=by
 cases l with
 | nil=>exact (h rfl).elim
 | cons x l=>rw[Qls];exact QCb l x
def Qoz {m:Nat} (h:vs.length+1<m) (i:Nat) (hi:Seen m vs.length i):vv m (vs++[v]) i=vv m vs i:=by
 unfold vv;by_cases a:i=m - 1
 ·rw[Zc a,Zc a]
 ·rw[Zb a,Zb a,Zh,Zh,Zv];rcases hi with b | b
  ·exact b
  ·exact (a b).elim
def QvN {m:Nat} (h:vs.length+1<m):vv m (vs++[v]) vs.length=v:=by unfold vv;rw[Zb (by omega),Zh];simp
def SolE (m:Nat) (v:Nat->Int) (l:List QH):Prop:=∀x∈l,v (rowN m x.A)<=v (rowN m x.B)+x.N
def QFC {m:Nat} {v:Nat->Int} {l:List QH} (a:SolE m v l) {k:Nat} (h:Way (l.map (edN m)) i k w):v i<=v k+w:=by
 induction h with
 | nil i=>omega
 | cons b _ e=>obtain⟨d,f,rfl⟩:=ZP.1 b;have:=a d f;have e1:(edN m d).a=rowN m d.A:=rfl;have e2:(edN m d).b=rowN m d.B:=rfl;have g:(edN m d).w=d.N:=rfl;rw[e2] at e;rw[e1,g];omega
def QFD {m:Nat} {v:Nat->Int} {l:List QH} (a:QdK m l) (b:SolE m v l):negB m (tP m l)=false:=by rw[Qjk];intro i hi;have hf:=QnV a;have d:INF=1099511627776:=rfl;have e:=hf.diag i hi;have:=QFC b (hf.way i i hi hi (by omega));omega
def QwY {m:Nat} {G:Nat->Nat->Int} (h:(QbM (tab m G) vs).2.2=0):vs.length+1<m/\(QbM (tab m G) vs).1<=(QbM (tab m G) vs).2.1/\(∀i,Seen m vs.length i->G i vs.length<INF->vv m vs i - G i vs.length<=(QbM (tab m G) vs).1)/\((QbM (tab m G) vs).1=-1099511627776\/∃i,Seen m vs.length i/\G i vs.length<INF/\(QbM (tab m G) vs).1=vv m vs i - G i vs.length):=by
  obtain⟨hb,b,e1,e2,g⟩:=QrI h;rw[Qfn] at b;have val:∀j,j<vs.length+1->at2B (tab m G) (QaZ (tab m G) vs j) vs.length=G (QaZ (tab m G) vs j) vs.length:=λj a=>QvL (QkJ b a).2.1 (by omega);have wr:∀j,j<vs.length+1->i64.wrap (QdG vs j - at2B (tab m G) (QaZ (tab m G) vs j) vs.length)=vv m vs (QaZ (tab m G) vs j) - G (QaZ (tab m G) vs j) vs.length:=by intro j a;have n:=QtO hb j;have o:=QzP hb (QaZ (tab m G) vs j) vs.length;rw[w64 (by omega) (by omega),val j a,(QkJ (G:=G) b a).2.2]
  refine⟨b,by rw[e1,e2];exact g,?_⟩;rw[e1];refine⟨λi hi hf=>?_,?_⟩
  · obtain⟨j,a,rfl⟩:=QvM (G:=G) b hi;have hm:=loF_in (c:=tab m G) (vs:=vs) (M:=vs.length+1) a (by rw[val j a];exact hf);rw[wr j a] at hm;exact (QtP (ne_nil_of_mem hm)).1 _ hm
  · by_cases l:loF (tab m G) vs (vs.length+1)=[]
    · left;unfold loB;rw[l];rfl
    · right;obtain⟨j,a,f,e⟩:=QFA (QtP (d:=-1099511627776) l).2;rw[wr j a] at e;rw[val j a] at f;exact⟨_,(QkJ (G:=G) b a).1,f,e⟩
def rg_hi {m:Nat} {G:Nat->Nat->Int} (h:(QbM (tab m G) vs).2.2=0):(∀i,Seen m vs.length i->G vs.length i<INF->(QbM (tab m G) vs).2.1<=vv m vs i+G vs.length i)/\((QbM (tab m G) vs).2.1=1099511627776\/∃i,Seen m vs.length i/\G vs.length i<INF/\(QbM (tab m G) vs).2.1=vv m vs i+G vs.length i):=by
  obtain⟨hb,b,e1,e2,l⟩:=QrI h;rw[Qfn] at b;have val:∀j,j<vs.length+1->at2B (tab m G) vs.length (QaZ (tab m G) vs j)=G vs.length (QaZ (tab m G) vs j):=λj a=>QvL (by omega) (QkJ b a).2.1;have wr:∀j,j<vs.length+1->i64.wrap (QdG vs j+at2B (tab m G) vs.length (QaZ (tab m G) vs j))=vv m vs (QaZ (tab m G) vs j)+G vs.length (QaZ (tab m G) vs j):=by intro j a;have n:=QtO hb j;have o:=QzP hb vs.length (QaZ (tab m G) vs j);rw[w64 (by omega) (by omega),val j a,(QkJ (G:=G) b a).2.2]
  rw[e2];refine⟨λi hi hf=>?_,?_⟩
  · obtain⟨j,a,rfl⟩:=QvM (G:=G) b hi;have hm:=hiF_in (c:=tab m G) (vs:=vs) (M:=vs.length+1) a (by rw[val j a];exact hf);rw[wr j a] at hm;exact (QtQ (ne_nil_of_mem hm)).1 _ hm
  · by_cases g:hiF (tab m G) vs (vs.length+1)=[]
    · left;unfold hiB;rw[g];rfl
    · right;obtain⟨j,a,f,e⟩:=QFB (QtQ (d:=1099511627776) g).2;rw[wr j a] at e;rw[val j a] at f;exact⟨_,(QkJ (G:=G) b a).1,f,e⟩
def Qqr (m:Nat) (G:Nat->Nat->Int) (vs:List Int):Prop:=∀i j,Seen m vs.length i->Seen m vs.length j->G i j<INF->vv m vs i<=vv m vs j+G i j
def QzR {m:Nat} {G:Nat->Nat->Int} (d:1<=m) (a:∀i,i<m->0<=G i i):Qqr m G []:=by intro i j hi b _;have e:∀i,Seen m ([]:List Int).length i->i=m - 1:=λi h=>h.elim (λh=>(Nat.not_lt_zero _ h).elim) id;rw[e i hi,e j b];have:=a (m - 1) (by omega);omega
def QwZ {m:Nat} {G:Nat->Nat->Int} (e:∀i,i<m->0<=G i i) (f:Qqr m G vs) (h:(QbM (tab m G) vs).2.2=0) (l:(QbM (tab m G) vs).1<=v) (d:v<=(QbM (tab m G) vs).2.1):Qqr m G (vs++[v]):=by
  obtain⟨b,_,hl,_⟩:=QwY h;have g:=(rg_hi h).1;intro i j hi a hf;have split:∀i,Seen m (vs++[v]).length i->i=vs.length\/Seen m vs.length i:=by
    intro i h;rcases h with h | h
    · simp only[Zf,Zk,Zm] at h;by_cases d:i=vs.length
      · exact .inl d
      · exact .inr (.inl (by omega))
    · exact .inr (.inr h)
  rcases split i hi with rfl | hi
  · rcases split j a with rfl | a
    · have:=e vs.length (by omega);omega
    · rw[QvN b,Qoz b j a];have:=g j a hf;omega
  · rcases split j a with rfl | a
    · rw[QvN b,Qoz b i hi];have:=hl i hi hf;omega
    · rw[Qoz b i hi,Qoz b j a];exact f i j hi a hf
def QzS {m:Nat} {l:List QH} {p:List Int} (b:QdK m l) (hl:p.length=m - 1) (d:Qqr m (tP m l) p):SolE m (vv m p) l:=by
  intro x hx;have hf:=QnV b;have a:=eds_w b (edN m x) (Yg hx);have e:=hf.edge (edN m x) (Yg hx);have g:INF=1099511627776:=rfl;have e1:(edN m x).a=rowN m x.A:=rfl;have e2:(edN m x).b=rowN m x.B:=rfl;have f:(edN m x).w=x.N:=rfl;rw[e1,e2,f] at e a;have seen:∀i,i<m->Seen m p.length i:=λi hi=>by unfold Seen;omega
  have:=d (rowN m x.A) (rowN m x.B) (seen _ a.1) (seen _ a.2.1) (by omega);omega
def Qff (vs:List Int):Nat->List QH
  | 0=>[]
  | n+1=>Qff vs n++[⟨n,-1,vs.getD n 0⟩,⟨-1,n,-(vs.getD n 0)⟩]
def Qlv (vs:List Int):∀n,(Qff vs n).length=2 * n
  | 0=>rfl
  | n+1=>by show (Qff vs n++_).length=_;rw[Zf,Qlv vs n];simp;omega
def Qj5 {x:QH}:∀{n:Nat},x∈Qff vs n↔∃j,j<n/\(x=⟨j,-1,vs.getD j 0⟩\/x=⟨-1,j,-(vs.getD j 0)⟩)
  | 0=>⟨λh=>(by cases h),λ⟨j,h,_⟩=>absurd h (Nat.not_lt_zero _)⟩
  | n+1=>by
    show x∈Qff vs n++_↔_;rw[ZB,Qj5 (n:=n)];constructor
    · rintro (⟨j,h,e⟩ | h)
      · exact⟨j,by omega,e⟩
      · refine⟨n,by omega,?_⟩;simpa using h
    · rintro ⟨j,h,e⟩;by_cases a:j<n
      · exact .inl ⟨j,a,e⟩
      · have:j=n:=by omega
        subst this;exact .inr (by simpa using e)
def QvO {E F:List Ed} (h:∀e∈E,e∈F) (a:Way E i j w):Way F i j w:=by
  induction a with
  | nil i=>exact Way.nil i
  | cons b _ d=>exact Way.cons (h _ b) d
def QhS (m j:Nat):rowN m (j:Int)=j:=by unfold rowN;rw[Zb (by omega)];omega
def QiJ (m:Nat):rowN m (-1)=m - 1:=by unfold rowN;rw[Zc (by decide)]
def QvP {m:Nat} (a:QdK m E) (hi:i<m) (h:Way (E.map (edN m)) i i w) (d:w<0):negB m (tP m E)=true:=by
  cases b:negB m (tP m E) with
  | true=>rfl
  | false=>have h0:=Qjk.1 b;have e:=(way_le (QnV a) h0 (eds_w a) h hi hi).2;have:=h0 i hi;omega
def QFE {m:Nat} {l:List QH} (g:QdK m l) (n:QdK m E) (hl:∀x∈l,x∈E) (hx:∀x∈Qff vs j,x∈E) (z:j+1<m) (o:QH.mk j (-1) (v - 1)∈E) (p:∃i,Seen m j i/\tP m l i j<INF/\v=vv m vs i - tP m l i j):negB m (tP m E)=true:=by
  obtain⟨i,hi,hf,rfl⟩:=p;have a:i<m:=by rcases hi with h | h<;>omega
  have sub:∀e∈l.map (edN m),e∈E.map (edN m):=λe r=>by obtain⟨x,hx,rfl⟩:=ZP.1 r;exact Yg (hl x hx)
  have s:=QvO sub ((QnV g).way i j a (by omega) hf);have d:=Way.one (Yg (f:=edN m) o);have e2:(edN m (QH.mk j (-1) (vv m vs i - tP m l i j - 1))).a=j:=QhS m j;have t:(edN m (QH.mk j (-1) (vv m vs i - tP m l i j - 1))).b=m - 1:=QiJ m;rw[e2,t] at d;have u:Way (E.map (edN m)) (m - 1) i (-(vv m vs i)):=by
    by_cases h:i=m - 1
    · subst h;unfold vv;rw[Zc rfl];exact Way.nil _
    · have b:i<j:=by rcases hi with y | y<;>omega
      have hm:QH.mk (-1) i (-(vs.getD i 0))∈E:=hx _ (Qj5.2 ⟨i,b,.inr rfl⟩);have w:=Way.one (Yg (f:=edN m) hm);have f2:(edN m (QH.mk (-1) i (-(vs.getD i 0)))).a=m - 1:=QiJ m;have f3:(edN m (QH.mk (-1) i (-(vs.getD i 0)))).b=i:=QhS m i;rw[f2,f3] at w;unfold vv;rw[Zb h];exact w
  refine QvP n a ((s.trans d).trans u) ?_;have:(edN m (QH.mk j (-1) (vv m vs i - tP m l i j - 1))).w=vv m vs i - tP m l i j - 1:=rfl;rw[this];omega
def QFF {m:Nat} {l:List QH} (g:QdK m l) (n:QdK m E) (hl:∀x∈l,x∈E) (hx:∀x∈Qff vs j,x∈E) (z:j+1<m) (o:QH.mk (-1) j (-v - 1)∈E) (p:∃i,Seen m j i/\tP m l j i<INF/\v=vv m vs i+tP m l j i):negB m (tP m E)=true:=by
  obtain⟨i,hi,hf,rfl⟩:=p;have a:i<m:=by rcases hi with h | h<;>omega
  have sub:∀e∈l.map (edN m),e∈E.map (edN m):=λe r=>by obtain⟨x,hx,rfl⟩:=ZP.1 r;exact Yg (hl x hx)
  have s:=QvO sub ((QnV g).way j i (by omega) a hf);have d:=Way.one (Yg (f:=edN m) o);have e2:(edN m (QH.mk (-1) j (-(vv m vs i+tP m l j i) - 1))).a=m - 1:=QiJ m;have t:(edN m (QH.mk (-1) j (-(vv m vs i+tP m l j i) - 1))).b=j:=QhS m j;rw[e2,t] at d;have u:Way (E.map (edN m)) i (m - 1) (vv m vs i):=by
    by_cases h:i=m - 1
    · subst h;unfold vv;rw[Zc rfl];exact Way.nil _
    · have b:i<j:=by rcases hi with y | y<;>omega
      have hm:QH.mk i (-1) (vs.getD i 0)∈E:=hx _ (Qj5.2 ⟨i,b,.inl rfl⟩);have w:=Way.one (Yg (f:=edN m) hm);have f2:(edN m (QH.mk i (-1) (vs.getD i 0))).a=i:=QhS m i;have f3:(edN m (QH.mk i (-1) (vs.getD i 0))).b=m - 1:=QiJ m;rw[f2,f3] at w;unfold vv;rw[Zb h];exact w
  refine QvP n (by omega) ((d.trans s).trans u) ?_;have:(edN m (QH.mk (-1) j (-(vv m vs i+tP m l j i) - 1))).w=-(vv m vs i+tP m l j i) - 1:=rfl;rw[this];omega
def QzT {m:Nat} {l:List QH} (hl:vs.length=m - 1) (a:SolE m (vv m vs) l) {n:Nat} (b:n<=m - 1):SolE m (vv m vs) (l++Qff vs n):=by
  intro x hx;rcases ZB.1 hx with h | h
  · exact a x h
  · obtain⟨j,d,h⟩:=Qj5.1 h;have e1:vv m vs j=vs.getD j 0:=Zb (by omega);have e2:vv m vs (m - 1)=0:=Zc rfl;rcases h with rfl | rfl
    · show vv m vs (rowN m (j:Int))<=vv m vs (rowN m (-1))+_;rw[QhS,QiJ,e1,e2];dsimp only;omega
    · show vv m vs (rowN m (-1))<=vv m vs (rowN m (j:Int))+_;rw[QhS,QiJ,e1,e2];dsimp only;omega
def Qkw (o lo hi:Int):Int:=if o<lo then lo else imin o hi
section
variable (x:Qc) (old:Wd) (co:Nat->Nat) (k i:Nat) (C:List (List Int))
def QzU (vs:List Int) (j:Nat) (v:Int):Prop:=(QbM C vs).2.2=0/\v=if i<co k then Qkw (g3 old k i ((vals x k).getD j 0)) (QbM C vs).1 (QbM C vs).2.1 else (QbM C vs).1
def rowV (W:Wd):List Int:=(vals x k).map (g3 W k i)
def Qgh (W:Wd):Prop:=∀j,j<(vals x k).length->QzU x old co k i C ((rowV x k i W).take j) j ((rowV x k i W).getD j 0)
end
section
variable {x:Qc} {co c:Nat->Nat} {old W:Wd} {k:Nat}
def Qpj (b:j<(vals x k).length) (a:i<j):(vals x k).getD i 0≠(vals x k).getD j 0:=by
  have hi:i<(vals x k).length:=by omega
  have d:(vals x k).Pairwise (·< ·):=Pairwise.filter _ pairwise_lt_range;have:=pairwise_iff_getElem.1 d _ _ hi b a;rw[Zh,Zd hi,Zh,Zd b];simp only[ZQ];omega
def Qw0 {W:Wd} (h:∀f,isV x k f=true->g3 V k i f=g3 W k i f):rowV x k i V=rowV x k i W:=by unfold rowV;refine map_congr_left λf hf=>h f ?_;exact (Yi.1 hf).2
def Qgh.kp {C:List (List Int)} {W:Wd} (h:Qgh x old co k i C W) (a:Kp A W V) (ha:∀f,isV x k f=true->¬A k i f):Qgh x old co k i C V:=by have e:rowV x k i V=rowV x k i W:=Qw0 λf hf=>a k i f (ha f hf);unfold Qgh;rw[e];exact h
def QzV (h:Old x co old) (y:Sh x.Xa.length c (nf x) W) (d:k<x.Xa.length) (hc:c k<=60):
    Ok (Qd8 ⟨x,old,W⟩ k) (λr=>∃K,r.2=⟨x,old,K⟩/\(r.1=0->Sh x.Xa.length c (nf x) K/\Kp (Qbc k (λf=>isV x k f=true)) W K/\(0<c k->(Qgg ((vals x k).length:Int) (dfS x k)).2=0/\∀i,i<c k->Qgh x old co k i (Qgg ((vals x k).length:Int) (dfS x k)).1 K))):=by
  have h9:=h.nf d;have a1:=QjE (x:=x) (k:=k);unfold Qd8;dsimp only;refine Ok.g1 y d ?_;rw[y.row k d];refine Ok.ite (λh0=>Ok.mk ⟨W,rfl,λ_=>⟨y,Kp.refl _ _,λhp=>?_⟩⟩) λh0=>?_
  · have:((c k:Nat):Int)=0:=by simpa using h0
    omega
  rw[QB2 h.gx h.clean d];dsimp only[Option.bind_some];rw[QdF,Qpg];dsimp only[Option.bind_some];refine Ok.ite (λhne=>Ok.mk ⟨W,rfl,λn=>absurd (show (14:Int)=0 from n) (by decide)⟩) λn=>?_;have B:(Qgg ((vals x k).length:Int) (dfS x k)).2=0:=by simpa using n
  obtain⟨m,hm,hv,_,hn,hC⟩:=QrJ B;rw[hC];have a0:=hv.m11;refine Ok.g1 y d ?_;rw[y.row k d];refine Ok.bind (P:=λe:Wd⊕Int×Wd=>match e with | .inl V=>Sh x.Xa.length c (nf x) V/\Kp (Qbc k (λf=>isV x k f=true)) W V/\∀i,i<c k->Qgh x old co k i (tab m (tP m (dfS x k))) V | .inr p=>p.1=14)
    (Ok.cnt (c k) (λi V=>Sh x.Xa.length c (nf x) V/\Kp (Qbc k (λf=>isV x k f=true)) W V/\∀t,t<i->Qgh x old co k t (tab m (tP m (dfS x k))) V) ⟨y,Kp.refl _ _,λi hi=>by omega⟩ (λi V hi hV=>?_) λV hV=>by rw[QaE];exact Ok.mk hV) λe n=>?_
  · obtain⟨v1,v2,v3⟩:=hV;rw[QaC hi];refine Ok.g1 v1 d (Ok.g2 v1 d hi ?_);refine Ok.bind (P:=λe:Wd⊕Int×Wd=>match e with | .inl U=>Sh x.Xa.length c (nf x) U/\Kp (λL t f=>L=k/\t=i/\isV x k f=true) V U/\Qgh x old co k i (tab m (tP m (dfS x k))) U | .inr p=>p.1=14)
      (Ok.cnt (vals x k).length (λj s=>Sh x.Xa.length c (nf x) s.2/\Kp (λL t f=>L=k/\t=i/\isV x k f=true) V s.2/\s.1.length=j/\(∀b,b<j->s.1.getD b 0=g3 s.2 k i ((vals x k).getD b 0))/\∀b,b<j->QzU x old co k i (tab m (tP m (dfS x k))) (s.1.take b) b (s.1.getD b 0))
        ⟨v1,Kp.refl _ _,rfl,λj g=>by omega,λj g=>by omega⟩ (λj s g Q=>?_) λs Q=>?_) λe n=>?_
    · obtain⟨some,U⟩:=s;obtain⟨l,u2,D,N,O⟩:=Q;dsimp only at l u2 D N O ⊢;obtain⟨hf,F⟩:=QjD g;have H:∀b,b<j->(vals x k).getD b 0≠(vals x k).getD j 0:=λb u=>Qpj g u;rw[QaC g,QjC g];dsimp only[Option.bind_some];generalize I:(vals x k).getD j 0=f at hf F H ⊢;rw[QB7 _ _ (by rw[Qfn];omega) (by omega) (λr R=>by
        obtain⟨a,_,rfl⟩:=ZP.1 R;rw[QhR];omega)]
      dsimp only[Option.bind_some];refine Ok.ite (λ_=>Ok.mk rfl) λR=>?_;have S:(QbM (tab m (tP m (dfS x k))) some).2.2=0:=by simpa using R
      refine Ok.g1 h.sh d ?_;rw[h.sh.row k d];refine Ok.bind (P:=λv=>v=if i<co k then Qkw (g3 old k i f) (QbM (tab m (tP m (dfS x k))) some).1 (QbM (tab m (tP m (dfS x k))) some).2.1 else (QbM (tab m (tP m (dfS x k))) some).1) (Ok.ite (λT=>?_) λX=>Ok.mk ?_) λv Y=>?_
      · have o:i<co k:=by have:=Zt T;omega
        refine Ok.g1 h.sh d (Ok.g2 h.sh d o (Ok.g3 h.sh d o hf ?_));rw[QvD];exact Ok.mk (by rw[Zc o];rfl)
      · rw[Zb];have:=ZA X;omega
      · refine Ok.g1 l d (Ok.g2 l d hi (Ok.g3 l d hi hf (Ok.put l d hi hf (Ok.rm (by simp;omega) (Ok.mk ⟨QD g (by omega),l.s d hi,u2.step (l.kp d hi hf ⟨rfl,rfl,F⟩),by simp[D],λb u=>?_,λb u=>?_⟩)))))
        · dsimp only;rw[Qlo,l.g3s d hi hf];by_cases e:b<j
          · rw[Zc (by omega),Zb (λq=>H b e q.2.2)];exact N b e
          · have:b=j:=by omega
            subst this;rw[Zb (by omega),Zc (by omega),Zc ⟨rfl,rfl,I⟩]
        · dsimp only;rw[Qlo];by_cases e:b<j
          · rw[Zc (by omega),take_append_of_le_length (by omega)];exact O b e
          · have:b=j:=by omega
            subst this;rw[Zb (by omega),Zc (by omega),take_append_of_le_length (by omega),Zu (by omega)];exact⟨S,by rw[I];exact Y⟩
    · rw[QaE];obtain⟨l,u2,D,N,O⟩:=Q;have e:rowV x k i s.2=s.1:=by
        refine ext_getElem? λj=>?_;unfold rowV;rw[Ye];by_cases g:j<(vals x k).length
        · have e1:=N j g;rw[Zh,Zh,Zd g,Zd (show j<s.1.length by omega)] at e1;rw[Zd g,Zd (show j<s.1.length by omega),ZW];simp only[ZQ] at e1;rw[e1]
        · rw[getElem?_eq_none (by omega),getElem?_eq_none (by omega)];rfl
      refine Ok.mk ⟨l,u2,λj g=>?_⟩;rw[e];exact O j g
    · cases e with
      | inr p=>exact Ok.mk n
      | inl U=>
        obtain⟨l,u2,D⟩:=n;refine Ok.mk ⟨QD hi (by omega),l,v2.step (u2.Xo λL t f z=>⟨z.1,z.2.2⟩),λt Z=>?_⟩;rcases Nat.lt_succ_iff_lt_or_eq.1 Z with z | z
        · exact (v3 t z).kp u2 λf _ hA=>by omega
        · subst z;exact D
  · cases e with
    | inl V=>exact Ok.mk ⟨V,rfl,λ_=>⟨n.1,n.2.1,λ_=>⟨B,n.2.2⟩⟩⟩
    | inr p=>exact Ok.mk ⟨p.2,rfl,λh0=>by have a2:p.1=14:=n;have a3:p.1=0:=h0;omega⟩
end
def QCc {n:Nat} {c d nf:Nat->Nat} {W:Wd} (e:Sh n c nf W) (h:Sh n d nf V) (p:n<=1000) (o:∀k,k<n->c k<=1000) (hf:∀k,k<n->nf k<=1000):Ok (Qi7 W V) (λ_=>True):=by
  unfold Qi7;refine Ok.bind (P:=λ_=>True) (Ok.cnt W.length (λ_ _=>True) trivial (λk s m _=>?_) λs _=>by rw[QaE];exact Ok.mk trivial) λr _=>Ok.mk trivial;have a:k<n:=by rw[<-e.len];exact m
  have t:=o k a;rw[QaC m];refine Ok.g1 e a (Ok.g1 h a ?_);rw[e.row k a,h.row k a];have hm:imin ((c k:Nat):Int) ((d k:Nat):Int)=((min (c k) (d k):Nat):Int):=by unfold imin;split<;>omega
  rw[hm];refine Ok.bind (P:=λ_=>True) (Ok.cnt (min (c k) (d k)) (λ_ _=>True) trivial (λi s hi _=>?_) λs _=>by rw[QaE];exact Ok.mk trivial) λr _=>Ok.mk ⟨QD m (by rw[e.len];omega),trivial⟩;have g:i<c k:=by omega
  have l:i<d k:=by omega
  rw[QaC hi];refine Ok.g1 e a (Ok.g2 e a g ?_);rw[e.fld k i a g];have u:=hf k a;refine Ok.bind (P:=λ_=>True) (Ok.cnt (nf k) (λ_ _=>True) trivial (λf s b _=>?_) λs _=>by rw[QaE];exact Ok.mk trivial) λr _=>Ok.mk ⟨QD hi (by omega),trivial⟩;rw[QaC b];refine Ok.g3 e a g b (Ok.g1 h a (Ok.g2 h a l (Ok.g3 h a l b ?_)));refine Ok.bind (P:=λ_=>True) (Ok.ite (λ_=>Ok.mk trivial) λ_=>Ok.mk trivial) λr _=>Ok.mk ⟨QD b (by omega),trivial⟩
section
variable {x:Qc} {co c:Nat->Nat} {old W:Wd} {q:List Int}
def QzW (h:Old x co old) (hl:q.length=x.Xa.length) (m:QcG x q):Ok (Qil x old q) (λr=>r=0\/r=14):=by
  have o:=h.kinds;have hb:∀v∈q,0<=v/\v<=62:=λv a=>by
    obtain⟨i,hi,rfl⟩:=mem_iff_getElem.1 a;have:=m.2 i hi;have:=h.gx.kd (k:=i) (by omega);have e:q.getD i 0=q[i]:=by rw[Zh,Zd hi];rfl
    omega
  unfold Qil;refine (Qzs h).bind λt ht=>?_;refine Ok.opt (P:=λy=>0<=y.Xi) (λb=>?_) λy hy=>?_
  · have d:(0:Int)<t.length:=by simpa using b
    obtain⟨v,e,a⟩:=QcF (l:=t) (i:=0) (Zx _) d;exact Ok.eq e (ht v a)
  refine Ok.ite (λb=>?_) λ_=>?_
  · rw[Zi] at b;have:=hy (by rw[b.1];rfl);have:=Zt b.2;omega
  have e1:((q.length:Int) !=(x.Xa.length:Int))=false:=by rw[hl];simp
  rw[e1,Qg2 q (λx0=>Qit x0) (λn=>decide (n<0)) (λ_ _=>rfl) (by omega)];have e2:q.any (λn=>decide (n<0))=false:=by rw[any_eq_false];intro v a;have:=hb v a;simp;omega
  rw[e2];show Ok ((QaO q (λx0=>QgY x0)).bind _) _;rw[Qg2 q (λx0=>QgY x0) (λn=>decide (n>62)) (λ_ _=>rfl) (by omega)];have p:q.any (λn=>decide (n>62))=false:=by rw[any_eq_false];intro v a;have:=hb v a;simp;omega
  rw[p];dsimp only[Option.bind_some];rw[Zb (by decide)];refine Ok.bind (P:=λe:Unit⊕Int=>∀r,e=.inr r->r=14) (Ok.cnt0 q.length (λ_=>True) trivial (λi hi _=>?_) λ_=>by rw[QaE];exact Ok.mk λr f=>by cases f) λe s=>?_
  · have g:i<x.Xa.length:=by omega
    rw[QaC hi,QY hi];dsimp only[Option.bind_some];rw[Qbl g];dsimp only[Option.bind_some];refine Ok.opt (P:=λ_=>True) (λ_=>Ok.mk trivial) λy _=>Ok.ite (λ_=>Ok.mk λr f=>by cases f;rfl) λ_=>Ok.mk ⟨QD hi (by omega),trivial⟩
  · cases e with
    | inl _=>exact Ok.mk (.inl rfl)
    | inr r=>exact Ok.mk (.inr (s r rfl))
def Qld (x:Qc) (co c:Nat->Nat) (old:Wd) (k:Nat) (W:Wd):Prop:=0<c k->(Qgg ((vals x k).length:Int) (dfS x k)).2=0/\∀i,i<c k->Qgh x old co k i (Qgg ((vals x k).length:Int) (dfS x k)).1 W
def Done (x:Qc) (co c:Nat->Nat) (old:Wd) (k:Nat) (W:Wd):Prop:=Qj3 x c k W/\Qld x co c old k W
def Qpk {k f:Nat} (h:isV x k f=true):(fd x k f).Xi=2\/(fd x k f).Xi=4:=by unfold isV at h;simpa using h
def Qld.kp {k:Nat} (h:Qld x co c old k W) (b:Kp A W V) (ha:∀i f,isV x k f=true->¬A k i f):Qld x co c old k V:=λa=>⟨(h a).1,λi hi=>((h a).2 i hi).kp b λf hf=>ha i f hf⟩
def Done.kp {k:Nat} (h:Done x co c old k W) (a:Kp A W V) (ha:∀i f,((fd x k f).Xi=1\/isV x k f=true)->¬A k i f):Done x co c old k V:=⟨h.1.kp a λi f b=>ha i f (.inl b),h.2.kp a λi f d=>ha i f (.inr d)⟩
def QFG (h:Old x co old) (hl:q.length=x.Xa.length) (z:QcG x q):
    Ok (Qr (λ(b:Int×List (List (List Int)))=>((if (decide (b.1<(q.length:Int)))=true then (idx q b.1).bind λt37=>(Qr (λ(g:Int×List (List (List Int)))=>((if (decide (g.1<t37))=true then (idx g.2 b.1).bind λm=>(idx (x).Xa b.1).bind λt57=>(mk ((t57).Xb.length:Int) (0:Int)).bind λt61=>(rm (m.length+1)).bind λ_=>(setAt g.2 b.1 (m++[t61])).bind λo=>(some (.inl ((i64.wrap (g.1+(1:Int))),o))) else (some (.inr g.2))):Option ((Int×List (List (List Int)))⊕((List (List (List Int))))))) ((0:Int),b.2)).bind λ(p:(List (List (List Int))))=>(some (.inl ((i64.wrap (b.1+(1:Int))),p))) else (some (.inr b.2))):Option ((Int×List (List (List Int)))⊕((List (List (List Int))))))) ((0:Int),replicate q.length ([]:List (List Int))))
      (λZ=>Sh x.Xa.length (cN q) (nf x) Z/\∀k i f,g3 Z k i f=0):=by
  have B:=h.kinds;refine (Ok.cnt (Q:=λZ=>RIw x (cN q) (λk r=>r=replicate (nf x k) 0) q.length 0 Z) q.length (λk Z=>RIw x (cN q) (λk r=>r=replicate (nf x k) 0) k 0 Z) (RIw.start hl) (λk Z l a=>?_) λZ a=>by rw[QaE];exact Ok.mk a).Xo λZ a=>?_
  · have n:k<x.Xa.length:=by omega
    have t:=Qlr z l;have D:=(z.2 k l).2;have u:=h.gx.kd n;rw[QaC l,Qdb (d:=0) l,t];dsimp only[Option.bind_some];refine Ok.bind (P:=λZ=>RIw x (cN q) (λk r=>r=replicate (nf x k) 0) k (cN q k) Z) (Ok.cnt (cN q k) (λi Z=>RIw x (cN q) (λk r=>r=replicate (nf x k) 0) k i Z) a (λi Z hi a=>?_) λZ a=>by rw[QaE];exact Ok.mk a) λZ a=>Ok.mk ⟨QD l (by omega),a.next⟩;rw[QaC hi,show idx Z (k:Int)=some (g1 Z k) from Qdb (by rw[a.len];omega),Qbl n];dsimp only[Option.bind_some];rw[Qf6 _ _ (by unfold nf at u;omega)];dsimp only[Option.bind_some];refine Ok.rm (by rw[a.at'];omega) ?_;rw[QdQ (by rw[a.len];omega)];exact Ok.mk ⟨QD hi (by omega),a.add n rfl⟩
  · rw[hl] at a;have s:∀k,k<x.Xa.length->(g1 Z k).length=cN q k:=a.lo;have F:∀k i,k<x.Xa.length->i<cN q k->g2 Z k i=replicate (nf x k) 0:=λk i l hi=>a.good k _ (Qju (by rw[s k l];exact hi));refine⟨⟨a.len,s,λk i l hi=>by rw[F k i l hi,length_replicate]⟩,λk i f=>?_⟩;have y:g2 Z k i=replicate (nf x k) 0\/g2 Z k i=[]:=by
      by_cases hi:i<(g1 Z k).length
      · exact .inl (a.good k _ (Qju hi))
      · right;unfold g2;rw[Zh,getElem?_eq_none (by omega)];rfl
    unfold g3;rcases y with e | e
    · rw[e,Zh,getElem?_replicate];split<;>rfl
    · rw[e];rfl
def QCd (h:Old x co old) (hl:q.length=x.Xa.length) (N:QcG x q):Ok (Qin x old q) (λr=>(r.2.2=0/\Sh x.Xa.length (cN q) (nf x) r.1/\∀k,k<x.Xa.length->Qld x co (cN q) old k r.1)\/r.2.2=14):=by
  have a3:=h.kinds;have l:∀k,k<x.Xa.length->cN q k<=60:=λk n=>by have:=(N.2 k (by omega)).2;have:=Qlr N (k:=k) (by omega);have:=h.gx.kd n;omega
  unfold Qin;refine (QzW h hl N).bind λe o=>?_;refine Ok.ite (λhne=>Ok.mk (.inr ?_)) λ_=>?_
  · rcases o with rfl | rfl
    · cases hne
    · rfl
  rw[Qf6 _ _ (by omega)];dsimp only[Option.bind_some];refine Ok.bind (QFG h hl N) λZ hZ=>?_;obtain⟨S,Y⟩:=hZ;refine Ok.bind (P:=λe:(Wd×Qc×Wd)⊕(Wd×Int×Int)=>match e with | .inl p=>p.2=(x,old)/\Sh x.Xa.length (cN q) (nf x) p.1/\∀k,k<x.Xa.length->Done x co (cN q) old k p.1 | .inr p=>p.2.2=14)
    (Ok.cnt q.length (λk p=>p.2=(x,old)/\Sh x.Xa.length (cN q) (nf x) p.1/\(∀d,d<k->Done x co (cN q) old d p.1)/\∀d i f,k<=d->g3 p.1 d i f=0) ⟨rfl,S,λk n=>by omega,λk i f _=>Y k i f⟩ (λk p n hp=>?_) λp hp=>by rw[QaE];exact Ok.mk ⟨hp.1,hp.2.1,λk n=>hp.2.2.1 k (by omega)⟩) λe o=>?_
  · obtain⟨W,X,O⟩:=p;obtain⟨e,F,H,w3⟩:=hp;dsimp only at e F H w3 ⊢;cases e;have b:k<x.Xa.length:=by omega
    have h9:=h.nf b;obtain⟨hn,a4⟩:=Qtu h.clean b;rw[QaC n];refine (QFv h F b (l k b)).bind λm hm=>?_;obtain⟨W1,rfl,a1,a2⟩:=hm;rw[Qbl b];dsimp only[Option.bind_some];refine Ok.bind (P:=λe:(Qc×Wd×Wd)⊕(Wd×Int×Int)=>match e with | .inl p=>∃V,p=(x,old,V)/\Sh x.Xa.length (cN q) (nf x) V/\Kp (Qbc k (λf=>(fd x k f).Xi=1)) W1 V/\Qj3 x (cN q) k V | .inr p=>p.2.2=14)
      (Ok.cnt (kd x k).Xb.length (λf p=>∃V,p=(x,old,V)/\Sh x.Xa.length (cN q) (nf x) V/\Kp (Qbc k (λg=>(fd x k g).Xi=1/\g<f)) W1 V/\∀i g u:Nat,i<cN q k->g<f->(fd x k g).Xi=1->upIx x k g=u->∃j:Nat,g3 V k i g=j/\j<cN q u) ⟨W1,rfl,a1,Kp.refl _ _,λi g u _ hf=>by omega⟩ (λf p hf hp=>?_) λp hp=>?_) λe o=>?_
    · obtain⟨V,rfl,v1,v2,v3⟩:=hp;have I:f<nf x k:=hf;dsimp only;rw[QaC hf,fd_idx' k hf];dsimp only[Option.bind_some];by_cases s:(fd x k f).Xi=1
      · obtain⟨u,hu,a0⟩:=Qql h.clean b I (.inl s);have ec:((fd x k f).Xi==(1:Int))=true:=by simpa using s
        rw[ec];have hz:∀i,i<cN q k->g3 V k i f=0:=λi _=>by rw[v2 k i f (λa=>by have:=a.2.2;omega),a2 k i f (λa=>by have e:f=0:=a.2;rw[e] at s;omega)];exact w3 k i f (Zr _)
        refine Ok.opt (P:=λr=>∃Q,r.2=⟨x,old,Q⟩/\Sh x.Xa.length (cN q) (nf x) Q/\(r.1=0->Kp (Qbc k (·=f)) V Q/\∀i,i<cN q k->∃j:Nat,g3 Q k i f=j/\j<cN q u)) (λ_=>QB1 h v1 b l I hu a0 hz) λr hr=>?_;obtain⟨V2,er,b1,b2⟩:=hr rfl;refine Ok.ite (λ_=>Ok.mk rfl) λhne=>?_;obtain⟨b3,b4⟩:=b2 (by simpa using hne);show Ok (some (Sum.inl (_,r.2.x,r.2.old,r.2.w))) _;rw[er];refine Ok.mk ⟨QD hf (by unfold nf at h9;omega),V2,rfl,b1,?_,λi g R hi K y B=>?_⟩
        · exact (v2.Xo λd i g a=>⟨a.1,a.2.1,by have:=a.2.2;omega⟩).step (b3.Xo λd i g a=>⟨a.1,by rw[a.2];exact s,by have:=a.2;omega⟩)
        · by_cases e:g=f
          · subst e;have:R=u:=by omega
            subst this;exact b4 i hi
          · rw[b3 k i g (λa=>e a.2)];exact v3 i g R hi (by omega) y B
      · have ec:((fd x k f).Xi==(1:Int))=false:=by simpa using s
        rw[ec];refine Ok.mk ⟨QD hf (by unfold nf at h9;omega),V,rfl,v1,v2.Xo λd i g a=>⟨a.1,a.2.1,by have:=a.2.2;omega⟩,λi g R hi K y B=>?_⟩;rcases Nat.lt_succ_iff_lt_or_eq.1 K with a | a
        · exact v3 i g R hi a y B
        · subst a;exact (s y).elim
    · rw[QaE];obtain⟨V,rfl,v1,v2,v3⟩:=hp;exact Ok.mk ⟨V,rfl,v1,v2.Xo λd i g a=>⟨a.1,a.2.1⟩,v3⟩
    · cases e with
      | inr p=>exact Ok.mk o
      | inl p=>
        obtain⟨V,rfl,v1,v2,v3⟩:=o;dsimp only;refine (QzV h v1 b (l k b)).bind λr hr=>?_;obtain⟨U,er,b2⟩:=hr;refine Ok.ite (λ_=>Ok.mk rfl) λhne=>?_;obtain⟨L,u2,u3⟩:=b2 (by simpa using hne);rw[er];dsimp only;refine Ok.g1 L b ?_;rw[L.row k b];have ur:Qj3 x (cN q) k U:=v3.kp u2 λi f s a=>by have:=Qpk a.2;omega
        refine Ok.bind (P:=λp:Qc×Wd×Wd=>∃T,p=(x,old,T)/\Sh x.Xa.length (cN q) (nf x) T/\Kp (Qbc k (Qco x k)) U T)
          (Ok.cnt (cN q k) (λ_ p=>∃T,p=(x,old,T)/\Sh x.Xa.length (cN q) (nf x) T/\Kp (Qbc k (Qco x k)) U T) ⟨U,rfl,L,Kp.refl _ _⟩ (λi p hi hp=>?_) λp hp=>by rw[QaE];exact Ok.mk hp) λp hp=>?_
        · obtain⟨T,rfl,t1,t2⟩:=hp;rw[QaC hi];refine (QzG h t1 b hi (ur.kp t2 λi f s a=>by have:=a.2;unfold Qco at this;omega)).bind λm hm=>?_;obtain⟨T2,rfl,s1,s2⟩:=hm;exact Ok.mk ⟨QD hi (by have:=l k b;omega),T2,rfl,s1,t2.step s2⟩
        · obtain⟨T,rfl,t1,t2⟩:=hp;have fr:∀d i f,d≠k->g3 T d i f=g3 W d i f:=λd i f hne=>by
            rw[t2 d i f (λa=>hne a.1),u2 d i f (λa=>hne a.1),v2 d i f (λa=>hne a.1),a2 d i f (λa=>hne a.1)]
          refine Ok.mk ⟨QD n (by omega),rfl,t1,λd z=>?_,λd i f z=>?_⟩
          · rcases Nat.lt_succ_iff_lt_or_eq.1 z with a | a
            · exact (H d a).kp (A:=λk2 _ _=>k2=k) (λk2 i f hn=>fr k2 i f hn) λi f _ hA=>by omega
            · subst a;have vk:Qld x co (cN q) old d U:=u3;exact⟨ur.kp t2 λi f s a=>by have:=a.2;unfold Qco at this;omega,vk.kp t2 λi f D a=>by have:=Qpk D;have:=a.2;unfold Qco at this;omega⟩
          · dsimp only;rw[fr d i f (by omega)];exact w3 d i f (by omega)
  · cases e with
    | inr p=>exact Ok.mk (.inr o)
    | inl p=>
      obtain⟨W,X,O⟩:=p;obtain⟨e,F,H⟩:=o;dsimp only at e F H ⊢;cases e;refine Ok.bind (P:=λp:Wd×Qc×Wd=>Sh x.Xa.length (cN q) (nf x) p.1/\∀k,k<x.Xa.length->Done x co (cN q) old k p.1) (Ok.cnt q.length (λ_ p=>p.2=(x,old)/\Sh x.Xa.length (cN q) (nf x) p.1/\∀k,k<x.Xa.length->Done x co (cN q) old k p.1) ⟨rfl,F,H⟩ (λk p n hp=>?_) λp hp=>by rw[QaE];exact Ok.mk hp.2) λp hp=>?_
      · obtain⟨V,X,O⟩:=p;obtain⟨e,v1,v2⟩:=hp;dsimp only at e v1 v2 ⊢;cases e;have b:k<x.Xa.length:=by omega
        rw[QaC n];refine (QFw h v1 b l λk n=>(v2 k n).1).bind λm hm=>?_;obtain⟨U,rfl,L,u2⟩:=hm;refine Ok.mk ⟨QD n (by omega),rfl,L,λd z=>(v2 d z).kp u2 λi f D a=>?_⟩;have h6:=a.2;have o:=a.1;subst o;rcases D with D | D
        · omega
        · have:=Qpk D;omega
      · refine (QCc h.sh hp.1 (by omega) (λk n=>by have:=h.le k n;omega) λk n=>by have:=h.nf n;omega).bind λt _=>Ok.mk (.inl ⟨rfl,hp.1,λk n=>(hp.2 k n).2⟩)
end

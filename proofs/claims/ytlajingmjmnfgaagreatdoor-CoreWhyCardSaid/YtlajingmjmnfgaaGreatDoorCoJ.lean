/- Package core. No condition. -/
import Derived.Test.YtlajingmjmnfgaaGreatDoorBdQ
import Derived.Test.YtlajingmjmnfgaaGreatDoorCoA
set_option linter.all false
open List Go.IntKind
namespace Go.Proofs.YtlajingmjmnfgaaGreatDoor
open Go.Sim
def Qew (x:Qb):List Qk:=limL Qk.mk x
def nLim (x:Qb):Nat:=(Qew x).length
def Qcs (x:Qb) (I:Nat->Bool):Bool:=QhA (λk=>!(cycN x k λj=>I (nLim x+j)).isEmpty) x.Xa.length (sel (Qew x) I zL) (refP (QeL x))
def QjR {α:Type} {l:List α} {p q:α->Bool} (h:∀a∈l,p a=q a):l.filter p=l.filter q:=filter_congr h
def Quj {x:Qb} {k:Int} {p q:Nat->Bool} (h:∀j,j<(Qao x).length->p j=q j):ownI x k p=ownI x k q:=by unfold ownI;exact QjR λj hj=>by rw[h j (ZD.1 hj)]
def Quk {x:Qb} {k:Int} {p q:Nat->Bool} (h:∀j,j<(Qao x).length->p j=q j):cycN x k p=cycN x k q:=by unfold cycN ownD;rw[Quj h]
def QlX {α:Type} {l:List α} {p q:Nat->Bool} {d:α} (h:∀i,i<l.length->p i=q i):sel l p d=sel l q d:=by unfold sel;rw[QjR λi hi=>h i (ZD.1 hi)]
def Qsj {x:Qb} {I J:Nat->Bool} (h:∀i,i<nLim x+(Qao x).length->I i=J i):Qcs x I=Qcs x J:=by
 unfold Qcs;have e:(λk=>!(cycN x k λj=>I (nLim x+j)).isEmpty)=λk=>!(cycN x k λj=>J (nLim x+j)).isEmpty:=by
  funext k
  rw[Quk λj hj=>h (nLim x+j) (by omega)]
 rw[e,QlX λi hi=>h i (by unfold nLim;omega)]
def Qtc {s:List Nat} {i:Nat} (hs:s.length<=1000):QaQ (i:Int) (ints s)=some (s.contains i):=by
 unfold QaQ QdI QeH;rw[Qn2 (ints s) (λv=>(i:Int)==v) (λk hk=>?_) ?_]
 ·have e:s.contains i=(ints s).any λv=>(i:Int)==v:=by
   unfold ints;rw[any_map,contains_eq_any_beq];congr 1
   funext j
   rw[ZO];simp;omega
  rw[e,<-QBF];unfold fIx;cases (ints s).findIdx? λv=>(i:Int)==v<;>rfl
 ·rw[Zd (by simp)]
 ·rw[Zc (by simpa using hk),QI hk];simp only[Za];rw[Qw hk (by unfold ints;simp;omega)]
def Qtd {x:Qb} (hc:QZ x=[]) {s:List Nat} (hs:s.length<=1000):Qc4 (Qbp x) (ints s)=some (Qcs x λi=>s.contains i):=by
 have hst:=Qh3 hc;unfold Qc4;rw[QjQ (s:=Qbp x) (n:=x.Xa.length) rfl hst (p:=λi=>s.contains i) (E:=λk=>!(cycN x k λj=>s.contains (nLim x+j)).isEmpty) (λi _=>Qtc hs) (λk hk=>?_)]
 ·rfl
 ·unfold Qes;rw[Qkd hc hk (p:=λj=>s.contains (nLim x+j)) (λj hj=>?_)]
  ·simp only[Za];congr 2;unfold ints;cases cycN x (k:Int) λj=>s.contains (nLim x+j)<;>rfl
  ·unfold Qcz;have h1:=Qfg (Qan hc);have h2:=hst.len;have e:i64.wrap (((Qbp x).Xo.length:Int)+(j:Int))=((nLim x+j:Nat):Int):=by
    show i64.wrap (((limL Qk.mk x).length:Int)+(j:Int))=_;unfold nLim Qew;rw[w64 (by omega) (by omega)];omega
   rw[e];show ((QaQ ((nLim x+j:Nat):Int) (ints s)).bind λt13=>some t13)=_;rw[Qtc hs];rfl
def Qte {l:List Str} {n:Str} (hl:l.length<=1000000):Qgz l n=some (l.contains n):=by
 unfold Qgz;rw[QcM l (λt=>!(t==n)) true (λk hk=>?_) (by rw[Zd (by simp)])]
 ·have e:l.contains n=!l.all λt=>!(t==n):=by
   rw[contains_eq_any_beq,all_eq_not_any_not,Bool.not_not];congr 1
   funext t
   rw[ZO];simp;exact eq_comm
  rw[e];cases l.all λt=>!(t==n)<;>rfl
 ·rw[Zc (by simpa using hk),QI hk];simp only[Za];rw[Qw hk (by omega)];cases l[k]==n<;>rfl
def Qhf {x:Qb}:(namL x).length=nLim x:=by
 unfold nLim Qew namL limL;rw[length_flatMap,length_flatMap];congr 1;refine map_congr_left λi hi=>?_;unfold kndN kndL
 cases x.Xa[i]? with
 | none=>rfl
 | some q=>
  dsimp only;rw[Ze,Ze,length_flatMap,length_flatMap];refine Ya (2+sum ·) ?_;refine map_congr_left λj hj=>?_;unfold fldN fldL
  cases q.Xb[j]? with
  | none=>rfl
  | some f=>dsimp only;split<;>rfl
def Qhg (x:Qb):(QaK x).length=nLim x+(Qao x).length:=by unfold QaK;rw[Ze,Qhf,Zv]
def Qbq (x:Qb) (i:Nat):Str:=(QaK x).getD i []
def Qul {x:Qb} {i:Nat} (h:i<nLim x):(namL x)[i]?=some (Qbq x i):=by unfold Qbq QaK;rw[Zf,ZU (by rw[Qhf];exact h),Zb (by rw[Qhf];exact h)];rfl
def Qsk {x:Qb} {j:Nat} (h:j<(Qao x).length):Qbq x (nLim x+j)=(Qao x)[j].2.1:=by unfold Qbq QaK;rw[Zf,ZP (by rw[Qhf];omega),Qhf,Nat.add_sub_cancel_left,Ym,Zb h];rfl
def QB7 {α β:Type} (l:List α) (d:α) (p:Nat->Bool) (q:α->Bool) (g:α->β) (h:∀i (hi:i<l.length),q l[i]=p i):(l.filter q).map g=(sel l p d).map g:=by
 congr 1
 unfold sel;have e:l=(range l.length).map λi=>l.getD i d:=by refine ext_getElem (by simp) λi h1 h2=>?_;simp[Zf,h1]
 have e2:l.filter q=((range l.length).map λi=>l.getD i d).filter q:=by rw[<-e]
 rw[e2,filter_map];congr 1;refine QjR λi hi=>?_;have hi:=ZD.1 hi;have:=h i hi;simp only[Function.comp];rw[<-this,Zf,Zb hi];rfl
def Qtf {α:Type} (l:List α) (d:α) (p:Nat->Bool) {body:Int×List α->Option ((Int×List α)⊕List α)}
  (hs:∀k (h:k<l.length) (acc:List α),acc.length<=k->body ((k:Int),acc)=some (.inl (((k+1:Nat):Int),if p k=true then acc++[l[k]] else acc))) (he:∀acc,body ((l.length:Int),acc)=some (.inr acc)):
  Qm body ((0:Int),[])=some (sel l p d):=by
 refine (Qmx (range l.length) p (λi=>l.getD i d) (λk hk acc ha=>?_) (λacc=>by rw[ZL];exact he acc)).trans rfl;rw[ZL] at hk;rw[hs k hk acc ha,getElem_range,Zf,Zb hk];rfl
def QyC {x:Qb} (hs:Qb4 x) (hc:QZ x=[]) {names:List Str} (hn:names.length<=1000000):QeB x names=some (Qcs x λi=>names.contains (Qbq x i)):=by
 have hv:=Qan hc;have hst:=Qh3 hc;have h1:=Qfg hv;have h2:=hst.len;have h3:=hv.kinds;unfold QeB;rw[QiF hs];unfold limR;rw[hc];dsimp only[Option.bind_some];have hml:=QoS x;obtain⟨L,hL⟩:∃L,limL Qv.mk x=L:=⟨_,rfl⟩;rw[hL] at hml ⊢;have hLl:L.length=nLim x:=by rw[<-hml,Zv];rfl
 rw[Qtf L ⟨0,0,0,false⟩ (λi=>names.contains (Qbq x i)) (λk hk acc ha=>?_) (λacc=>by rw[Zd (by simp)])]
 ·simp only[Za];rw[QlQ hs hc];simp only[Za];rw[Qmx ((Qao x).map mkN) (λt=>names.contains t.Xj) (λt=>t) (λk hk acc ha=>?_) (λacc=>by rw[Zd (by simp)])]
  ·have e1:(((Qao x).map mkN).filter λt=>names.contains t.Xj).map (λt=>t)=(sel (Qao x) (λj=>names.contains (Qbq x (nLim x+j))) d0T).map mkN:=by
    rw[map_id',filter_map];exact QB7 (Qao x) d0T (λj=>names.contains (Qbq x (nLim x+j))) _ mkN λi hi=>by rw[Qsk hi];rfl
   rw[e1];simp only[Za];rw[Qht x.Xa.length false (by omega)];simp only[Za];refine Qb8 (g:=λ(p72:List Bool)=>(Qbs x _ p72).bind λt83=>some t83) x.Xa.length (λn=>((n:Int),((range n).map λ(k:Nat)=>!(cycN x (k:Int) λj=>names.contains (Qbq x (nLim x+j))).isEmpty)++replicate (x.Xa.length - n) false)) ((range x.Xa.length).map λ(k:Nat)=>!(cycN x (k:Int) λj=>names.contains (Qbq x (nLim x+j))).isEmpty) (by simp) (λn hn'=>?_) ?_ ?_
   ·have hln:(((range n).map λ(k:Nat)=>!(cycN x (k:Int) λj=>names.contains (Qbq x (nLim x+j))).isEmpty)++replicate (x.Xa.length - n) false).length=x.Xa.length:=by simp;omega
    dsimp only;rw[hln,Zc (by simpa using hn'),QpG hn' (by omega)];simp only[Za];rw[QeC (by rw[hln];exact hn')];simp only[Za];rw[Qw hn' (by omega),set_append_right _ _ (by simp)];congr 3;have e2:x.Xa.length - n=(x.Xa.length - (n+1))+1:=by omega
    have e3:decide (((cycN x (n:Int) λj=>names.contains (Qbq x (nLim x+j))).length:Int)>0)=!(cycN x (n:Int) λj=>names.contains (Qbq x (nLim x+j))).isEmpty:=by
     cases cycN x (n:Int) λj=>names.contains (Qbq x (nLim x+j)) with
     | nil=>rfl
     | cons a l=>simp
    rw[e2,replicate_succ,Zv,ZL,Nat.sub_self,set_cons_zero,e3,ZX,ZT,ZA];rfl
   ·dsimp only;rw[Nat.sub_self,replicate_zero,Yh,Zv,ZL,Zd (by simp)]
   ·have hsl:∀y∈sel L (λi=>names.contains (Qbq x i)) ⟨0,0,0,false⟩,VL (toC y) x.Xa.length:=λy hy=>by
     obtain⟨i,hi,_⟩:=Qmv.1 hy;have:y∈L:=Zr hi;rw[<-hml] at this;obtain⟨z,hz,rfl⟩:=ZE.1 this;exact hst.lim z hz
    rw[Qjj hs hc hsl (by unfold sel;rw[Zv];have:=length_filter_le (λi=>names.contains (Qbq x i)) (range L.length);rw[ZL] at this;unfold nLim Qew at hLl;omega) (E:=λk=>!(cycN x k λj=>names.contains (Qbq x (nLim x+j))).isEmpty) (λk hk=>by rw[QI (by simpa using hk)];simp)];simp only[Za];congr 1;unfold Qcs;congr 1;unfold sel;rw[Yv,hLl];refine map_congr_left λi hi=>?_;have hi:i<nLim x:=ZD.1 (Yj.1 hi).1;simp only[Function.comp];have:L.getD i ⟨0,0,0,false⟩=Qmq ((Qew x).getD i zL):=by
     have hl2:i<(Qew x).length:=hi;rw[Zf,Zb (by omega),Zf,Zb hl2];simp only[Yg];have:L[i]?=((limL Qk.mk x).map Qmq)[i]?:=by rw[hml]
     rw[Zb (by omega),Ym,Zb (show i<(limL Qk.mk x).length from hl2)] at this;exact Zu this
    rw[this];rfl
  ·rw[Zv] at hk;dsimp only;rw[Zc (by simpa using hk),QI (by simpa using hk)];simp only[Za];rw[Qte hn];simp only[Za];rw[Qw hk (by omega)];split
   ·rw[QaT (by simp;omega)];rfl
   ·rfl
 ·have hkl:k<nLim x:=by omega
  dsimp only;rw[Zc (by simpa using hk),Qc6,Qul hkl];simp only[Za];rw[Qte hn];simp only[Za];unfold nLim Qew at hLl;rw[Qw hk (by omega)];split
  ·rw[QI hk];simp only[Za];rw[QaT (by simp;omega)];rfl
  ·rfl
def Qco (all:List Str):List Str->Nat->Option (List Nat)
 | [],_=>some []
 | n::l,b=>match all.findIdx? (λt=>n==t) with
  | some i=>if b<=i then (Qco all l (i+1)).map (i::·) else none
  | none=>none
def Qjk (x:Qb) (names:List Str):Int:=match QZ x with
 | p::_=>p.Code
 | []=>if nLim x>16 then 4 else match Qco (QaK x) names 0 with
  | none=>12
  | some js=>if Qcs x (λi=>js.contains i)=true then 15 else if ((range js.length).all λs=>Qcs x λi=>(js.eraseIdx s).contains i)=true then 0 else 15
def QkZ {all:List Str}:∀{l:List Str} {b:Nat} {js:List Nat},Qco all l b=some js->l=js.map (λi=>all.getD i [])/\js.Pairwise (·< ·)/\∀j∈js,b<=j/\j<all.length
 | [],b,js,h=>by obtain rfl:=Zu h;simp
 | n::l,b,js,h=>by
  unfold Qco at h
  cases hi:all.findIdx? (λt=>n==t) with
  | none=>rw[hi] at h;cases h
  | some i=>
   rw[hi] at h;dsimp only at h;split at h
   ·next hb=>
    cases hm:Qco all l (i+1) with
    | none=>rw[hm] at h;cases h
    | some ks=>
     rw[hm] at h;obtain rfl:=Zu h;obtain⟨h1,h2,h3⟩:=QkZ hm;obtain⟨hl,hp,_⟩:=ZC.1 hi;refine⟨?_,pairwise_cons.2 ⟨λj hj=>(h3 j hj).1,h2⟩,λj hj=>?_⟩
     ·rw[Yf,<-h1,Zf,Zb hl];have:n=all[i]:=by simpa using hp
      rw[this];rfl
     ·rcases Zp.1 hj with rfl | hj
      ·exact⟨hb,hl⟩
      ·have:=h3 j hj;exact⟨by omega,this.2⟩
   ·cases h
def QpH {all l:List Str} {b:Nat} {js:List Nat} (h:Qco all l b=some js):js.length=l.length/\js.length<=all.length:=by
 obtain⟨h1,h2,h3⟩:=QkZ h;have e:js.length=l.length:=by rw[h1];simp
 have hn:js.Nodup:=h2.imp λh=>by omega
 have:=Qhe js (range all.length) hn λj hj=>ZD.2 (h3 j hj).2;rw[ZL] at this;exact⟨e,this⟩
def QlY {α:Type} {l:List α} (h:l.Nodup) {i j:Nat} (hi:i<l.length) (hj:j<l.length) (e:l[i]=l[j]):i=j:=by
 have hp:=pairwise_iff_getElem.1 (show Pairwise (·≠·) l from h);rcases Nat.lt_trichotomy i j with h' | h' | h'
 ·exact absurd e (hp i j hi hj h')
 ·exact h'
 ·exact absurd e.symm (hp j i hj hi h')
def QwL {x:Qb} (hc:QZ x=[]) {js:List Nat} (hj:∀j∈js,j<(QaK x).length) {i:Nat} (hi:i<(QaK x).length):(js.map λi=>(QaK x).getD i []).contains (Qbq x i)=js.contains i:=by
 rw[ZO,contains_iff_mem,contains_iff_mem,ZE];constructor
 ·rintro ⟨j,hjm,e⟩;have hjl:=hj j hjm;have hn:=QjP hc;unfold Qbq at e;rw[Zf,Zf,Zb hjl,Zb hi] at e;rw[<-QlY hn hjl hi e];exact hjm
 ·intro h;exact⟨i,h,rfl⟩
def QyD {l:List Str} {n:Str} (hl:l.length<=1000000):Qb3 l n=some (match l.findIdx? (λt=>n==t) with | some k=>(k:Int) | none=>-1):=by
 unfold Qb3;rw[Qn2 l (λt=>n==t) (λk hk=>?_) (by rw[Zd (by simp)])]
 ·cases l.findIdx? (λt=>n==t)<;>rfl
 ·rw[Zc (by simpa using hk),QI hk];simp only[Za];rw[Qw hk (by omega)]
def QiJ (acc:List Nat):Nat:=match acc.getLast? with | some a=>a+1 | none=>0
def QwM {all names:List Str} (ha:all.length<=1000) (hn:names.length<=1000000) {body:Int×List Int->Option ((Int×List Int)⊕(List Int⊕Int))}
  (hb:∀k (h:k<names.length) (acc:List Nat),acc.length<=k->body ((k:Int),ints acc)=(Qb3 all names[k]).bind λt37=>(opt (((decide (t37<(0:Int)))==false)&&((decide (((ints acc).length:Int)>(0:Int)))==true)) (idx (ints acc) (i64.wrap (((ints acc).length:Int) - (1:Int)))) default).bind λt50=>(if ((decide (t37<(0:Int)))||((decide (((ints acc).length:Int)>(0:Int)))&&(decide (t37<=t50))))=true then (some (.inr (.inr (12:Int)))) else (rm ((ints acc).length+[t37].length)).bind λ_=>(some (.inl ((i64.wrap ((k:Int)+(1:Int))),((ints acc)++[t37]))))))
  (he:∀acc:List Nat,body ((names.length:Int),ints acc)=some (.inr (.inl (ints acc)))):
  Qm body ((0:Int),[])=some (match Qco all names 0 with | some js=>.inl (ints js) | none=>.inr (12:Int)):=by
 have key:∀m k (acc:List Nat),k+m=names.length->acc.length<=k->Qm body ((k:Int),ints acc)=some (match Qco all (names.drop k) (QiJ acc) with | some js=>.inl (ints (acc++js)) | none=>.inr (12:Int)):=by
  intro m
  induction m with
  | zero=>
   intro k acc hk _;have:k=names.length:=by omega
   subst this;rw[Qac,he,YA];simp[Qco]
  | succ m ih=>
   intro k acc hk hal;have hkl:k<names.length:=by omega
   rw[Qac,hb k hkl acc hal,QyD (by omega),Yl hkl];unfold Qco
   cases hi:all.findIdx? (λt=>names[k]==t) with
   | none=>simp[opt]
   | some i=>
    obtain⟨hil,_,_⟩:=ZC.1 hi;simp only[Za];have hneg:decide ((i:Int)<0)=false:=decide_eq_false (by omega);rw[hneg];have hcond:∃t,(opt ((false==false)&&((decide (((ints acc).length:Int)>(0:Int)))==true)) (idx (ints acc) (i64.wrap (((ints acc).length:Int) - (1:Int)))) default)=some t/\(false||((decide (((ints acc).length:Int)>(0:Int)))&&(decide ((i:Int)<=t))))=!decide (QiJ acc<=i):=by
     have hlen:(ints acc).length=acc.length:=by unfold ints;simp
     rcases eq_nil_or_concat acc with rfl | ⟨pre,a,rfl⟩
     ·exact⟨default,by simp[opt,ints],by simp[ints,QiJ]⟩
     ·simp only[concat_eq_append] at hlen hal ⊢;rw[hlen];have e1:i64.wrap (((pre++[a]).length:Int) - 1)=(pre.length:Int):=by rw[Ze];simp;rw[w64 (by omega) (by simp at hal;omega)]
      refine⟨(a:Int),?_,?_⟩
      ·rw[e1,Qc6];have:(ints (pre++[a]))[pre.length]?=some (a:Int):=by unfold ints;simp
       rw[this];simp[opt]
      ·have:QiJ (pre++[a])=a+1:=by unfold QiJ;simp
       rw[this,ZO];simp;omega
    obtain⟨t,ht,hc⟩:=hcond;rw[ht];simp only[Za];rw[hc];by_cases hle:QiJ acc<=i
    ·rw[decide_eq_true hle];simp only[Bool.not_true,ZB,if_false,Zc hle];rw[QaT (by unfold ints;simp;omega),Qw hkl (by omega)];simp only[Za];have e:ints acc++[(i:Int)]=ints (acc++[i]):=by unfold ints;simp
     rw[e,ih (k+1) (acc++[i]) (by omega) (by simp;omega)];have e2:QiJ (acc++[i])=i+1:=by unfold QiJ;simp
     rw[e2]
     cases Qco all (names.drop (k+1)) (i+1) with
     | none=>rfl
     | some js=>simp
    ·rw[decide_eq_false hle];simp[hle]
 have:=key names.length 0 [] (by omega) (by simp);rw[drop_zero] at this;simpa[QiJ,ints] using this
def Qum (js:List Nat) (s:Nat):(ints js).take s++(ints js).drop (s+1)=ints (js.eraseIdx s):=by unfold ints;rw[eraseIdx_eq_take_drop_succ,ZT,map_take,map_drop]
def Qon {x:Qb} (hs:Qb4 x) {names:List Str} (hn:names.length<=1000000):QfQ x names=some (Qjk x names):=by
 unfold QfQ Qjk;rw[Qrg hs];unfold Qjd
 cases hc:QZ x with
 | cons p l=>have:=Qgt (x:=x) (p:=p) (by rw[hc];exact Zn ..);dsimp only[Option.bind_some];rw[Zc (by simpa using this)]
 | nil=>
  have hv:=Qan hc;have hst:=Qh3 hc;have hnl:(QaK x).length<=1000:=by have h1:=Qfg hv;have h2:=Qje hv;unfold QaK;rw[Ze,Zv];omega
  dsimp only[Option.bind_some];rw[Zd (by simp),Qrj hs hc];simp only[Za];rw[show (Qbp x).Xo=Qew x from rfl];by_cases h16:nLim x>16
  ·rw[Zc (decide_eq_true (by unfold nLim at h16;omega)),Zc h16]
  ·rw[Zd (by simp;unfold nLim at h16;omega),Zd h16];rw[QwM (all:=QaK x) (names:=names) hnl hn (λk hk acc _=>by
    dsimp only;rw[Zc (by simpa using hk),QI hk];rfl) (λacc=>by rw[Zd (by simp)])]
   simp only[Za]
   cases hm:Qco (QaK x) names 0 with
   | none=>rfl
   | some js=>
    have hjl:=(QpH hm).2;dsimp only;rw[Qtd hc (by omega)];simp only[Za]
    cases hk:Qcs x λi=>js.contains i with
    | true=>rfl
    | false=>
     rw[Zd (by simp),Zd (by simp)];have hil:(ints js).length=js.length:=by unfold ints;simp
     rw[QcM (range js.length) (λs=>Qcs x λi=>(js.eraseIdx s).contains i) (15:Int) (λs hs'=>?_) (by rw[ZL,hil,Zd (by simp)])]
     ·cases (range js.length).all λs=>Qcs x λi=>(js.eraseIdx s).contains i<;>rfl
     ·rw[ZL] at hs';rw[hil,Zc (by simpa using hs'),getElem_range];unfold QeI;rw[QaT (by simp;omega)];simp only[Za,Ye];rw[Qw hs' (by omega)];unfold Qej;rw[Zc ⟨by omega,by omega,by omega,by omega⟩];simp only[Za,Zq];rw[Qum,Qtd hc (by have:=length_eraseIdx_le js s;omega)];simp only[Za];cases Qcs x λi=>(js.eraseIdx s).contains i<;>rfl
def Qun {all:List Str} (hn:all.Nodup) {n:Str} {b:Nat} (hb:b<=all.length) {body:Int->Option (Int⊕Int)}
  (h:∀s:Nat,s<=all.length->body (s:Int)=some (if h:s<all.length then (if (all[s] !=n)=true then .inl ((s+1:Nat):Int) else .inr (s:Int)) else .inr (s:Int))):
  Qm body (b:Int)=some (match all.findIdx? (λt=>n==t) with | some i=>if b<=i then (i:Int) else (all.length:Int) | none=>(all.length:Int)):=by
 have key:∀(t:Nat),t<=all.length->(∀s (hs:s<all.length),b<=s->s<t->all[s]≠n)->(∀ht:t<all.length,all[t]=n)->∀m s,s+m=t->b<=s->Qm body (s:Int)=some (t:Int):=by
  intro t htl h1 h2 m
  induction m with
  | zero=>
   intro s hs _;have:s=t:=by omega
   subst this;rw[Qac,h s htl];by_cases hlt:s<all.length
   ·rw[dif_pos hlt,h2 hlt];simp
   ·rw[dif_neg hlt]
  | succ m ih=>
   intro s hs hbs;have hlt:s<all.length:=by omega
   have:=h1 s hlt hbs (by omega);rw[Qac,h s (by omega),dif_pos hlt,Zc (by simpa using this)];exact ih (s+1) (by omega) (by omega)
 cases hi:all.findIdx? (λt=>n==t) with
 | none=>
  have hnone:∀s (hs:s<all.length),all[s]≠n:=λs hs e=>by have:=findIdx?_eq_none_iff.1 hi _ (Zk hs);rw[e] at this;simp at this
  exact key all.length (Zx _) (λs hs _ _=>hnone s hs) (λh=>by omega) (all.length - b) b (by omega) (Zx _)
 | some i=>
  obtain⟨hil,hp,_⟩:=ZC.1 hi;have hp:n=all[i]:=by simpa using hp
  have huniq:∀s (hs:s<all.length),all[s]=n->s=i:=λs hs e=>by rw[hp] at e;exact QlY hn hs hil e
  dsimp only;by_cases hbi:b<=i
  ·rw[Zc hbi];exact key i (by omega) (λs hs _ hsi e=>by have:=huniq s hs e;omega) (λ_=>hp.symm) (i - b) b (by omega) (Zx _)
  ·rw[Zd hbi];exact key all.length (Zx _) (λs hs hbs _ e=>by have:=huniq s hs e;omega) (λh=>by omega) (all.length - b) b (by omega) (Zx _)
def Quo {all names:List Str} {body:Int×Int->Option ((Int×Int)⊕(Unit⊕Int))}
  (hb:∀k (h:k<names.length) (b:Nat),b<=all.length->body ((k:Int),(b:Int))=some (match all.findIdx? (λt=>names[k]==t) with | some i=>if b<=i then .inl (((k+1:Nat):Int),((i+1:Nat):Int)) else .inr (.inr (12:Int)) | none=>.inr (.inr (12:Int))))
  (he:∀b:Nat,body ((names.length:Int),(b:Int))=some (.inr (.inl ()))):
  Qm body ((0:Int),(0:Int))=some (match Qco all names 0 with | some _=>.inl () | none=>.inr (12:Int)):=by
 have key:∀m k (b:Nat),k+m=names.length->b<=all.length->Qm body ((k:Int),(b:Int))=some (match Qco all (names.drop k) b with | some _=>.inl () | none=>.inr (12:Int)):=by
  intro m
  induction m with
  | zero=>
   intro k b hk _;have:k=names.length:=by omega
   subst this;rw[Qac,he,YA];simp[Qco]
  | succ m ih=>
   intro k b hk hbl;have hkl:k<names.length:=by omega
   rw[Qac,hb k hkl b hbl,Yl hkl];unfold Qco
   cases hi:all.findIdx? (λt=>names[k]==t) with
   | none=>rfl
   | some i=>
    obtain⟨hil,_,_⟩:=ZC.1 hi;dsimp only;by_cases hle:b<=i
    ·rw[Zc hle,Zc hle];dsimp only;rw[ih (k+1) (i+1) (by omega) (by omega)];cases Qco all (names.drop (k+1)) (i+1)<;>rfl
    ·rw[Zd hle,Zd hle]
 have:=key names.length 0 0 (by omega) (by omega);rw[drop_zero] at this;exact this
def Qsl {x:Qb} (hs:Qb4 x) {names:List Str} (hn:names.length<=1000000):Qgl x names=some (Qjk x names):=by
 unfold Qgl Qjk;rw[Qwo hs];unfold Qjd
 cases hc:QZ x with
 | cons p l=>have:=Qgt (x:=x) (p:=p) (by rw[hc];exact Zn ..);dsimp only[Option.bind_some];rw[Zc (by simpa using this)]
 | nil=>
  have hv:=Qan hc;have hst:=Qh3 hc;have hnl:(QaK x).length<=1000:=by have h1:=Qfg hv;have h2:=Qje hv;unfold QaK;rw[Ze,Zv];omega
  have hnd:=QjP hc;dsimp only[Option.bind_some];rw[Zd (by simp),QiF hs];unfold limR;rw[hc];dsimp only[Option.bind_some];have hll:(limL Qv.mk x).length=nLim x:=by rw[<-QoS,Zv];rfl
  rw[hll];by_cases h16:nLim x>16
  ·rw[Zc (decide_eq_true (by omega)),Zc h16]
  ·rw[Zd (by simp;omega),Zd h16];rw[Quo (all:=QaK x) (names:=names) (λk hk b hbl=>?_) (λb=>by rw[Zd (by simp)])]
   ·simp only[Za]
    cases hm:Qco (QaK x) names 0 with
    | none=>rfl
    | some js=>
     obtain⟨hjl1,hjl⟩:=QpH hm;obtain⟨hnames,_,hjn⟩:=QkZ hm;have hjn':∀j∈js,j<(QaK x).length:=λj hj=>(hjn j hj).2;have hkept:∀ks:List Nat,(∀j∈ks,j∈js)->ks.length<=1000->QeB x (ks.map λi=>(QaK x).getD i [])=some (Qcs x λi=>ks.contains i):=λks hks hkl=>by rw[QyC hs hc (by rw[Zv];omega)];congr 1;exact Qsj λi hi=>QwL hc (λj hj=>hjn' j (hks j hj)) (by rw[Qhg];exact hi)
     dsimp only;rw[hnames,hkept js (λ_ h=>h) (by omega)];simp only[Za]
     cases hk:Qcs x λi=>js.contains i with
     | true=>rfl
     | false=>
      rw[Zd (by simp),Zd (by simp)];have hil:(js.map λi=>(QaK x).getD i []).length=js.length:=by simp
      rw[QcM (range js.length) (λs=>Qcs x λi=>(js.eraseIdx s).contains i) (15:Int) (λs hs'=>?_) (by rw[ZL,hil,Zd (by simp)])]
      ·cases (range js.length).all λs=>Qcs x λi=>(js.eraseIdx s).contains i<;>rfl
      ·rw[ZL] at hs';rw[hil,Zc (by simpa using hs'),getElem_range];unfold sub;rw[Zc ⟨by omega,by omega,by rw[hil];omega⟩];simp only[Za];rw[QaT (by simp;omega)];simp only[Za];rw[Qw hs' (by omega),Zc ⟨by omega,by omega,by omega⟩];simp only[Za];rw[QaT (by simp;omega)];simp only[Za];have e:(([]:List Str)++((js.map λi=>(QaK x).getD i []).drop (0:Int).toNat).take ((s:Int).toNat - (0:Int).toNat))++((js.map λi=>(QaK x).getD i []).drop (((s+1:Nat):Int)).toNat).take (((js.length:Nat):Int).toNat - (((s+1:Nat):Int)).toNat)=(js.eraseIdx s).map λi=>(QaK x).getD i []:=by
        rw[eraseIdx_eq_take_drop_succ,ZT,map_take,map_drop];simp only[Zq,Ye,Int.toNat_zero,drop_zero,Nat.sub_zero];congr 1;refine ZG ?_;simp
       rw[e,hkept (js.eraseIdx s) (λj hj=>mem_of_mem_eraseIdx hj) (by have:=length_eraseIdx_le js s;omega)];simp only[Za];cases Qcs x λi=>(js.eraseIdx s).contains i<;>rfl
   ·dsimp only;rw[Zc (by simpa using hk)];rw[Qun hnd (n:=names[k]) hbl (λs hs'=>?_)]
    ·simp only[Za]
     cases hi:(QaK x).findIdx? (λt=>names[k]==t) with
     | none=>dsimp only;rw[Zc (by simp)]
     | some i=>
      obtain⟨hil,_,_⟩:=ZC.1 hi;dsimp only;by_cases hbi:b<=i
      ·simp only[Zc hbi];have h1:¬((i:Int)>=((QaK x).length:Int)):=by omega
       rw[decide_eq_false h1,Zd (by simp),Qw hk (by omega),Qw hil (by omega)]
      ·simp only[Zd hbi];have h1:((QaK x).length:Int)>=((QaK x).length:Int):=by omega
       rw[decide_eq_true h1,Zc rfl]
    ·by_cases hlt:s<(QaK x).length
     ·have e1:imin (s:Int) (i64.wrap (((QaK x).length:Int) - 1))=(s:Int):=by
       rw[w64 (by omega) (by omega)];unfold imin;rw[Zd (by omega)]
      rw[e1,decide_eq_true (show (s:Int)<((QaK x).length:Int) by omega),QI hlt,QI hk,dif_pos hlt];simp only[opt,beq_self_eq_true,if_true,Za,Bool.true_and];rw[Qw hlt (by omega)];split<;>rfl
     ·rw[decide_eq_false (show ¬(s:Int)<((QaK x).length:Int) by omega),dif_neg hlt];simp[opt]
def cyc (x:Qb) (k:Nat):List Nat:=cycN x (k:Int) λ_=>true
def recS (x:Qb) (K:Nat):List Nat:=(range x.Xa.length).flatMap λk=>if K.testBit k=true then cyc x k else []
def QbN (x:Qb) (m K:Nat):Bool:=QhA (λk=>K.testBit k.toNat) x.Xa.length (sel (Qew x) (λi=>m.testBit i) zL) (refP (QeL x))
def Qdu (x:Qb):Bool:=QhA (λk=>!(cycN x k λ_=>true).isEmpty) x.Xa.length (sel (Qew x) (λ_=>true) zL) (refP (QeL x))
def QiK (x:Qb) (K:Nat):Prop:=K<2 ^ x.Xa.length/\∀k,k<x.Xa.length->K.testBit k=true->cyc x k≠[]
def Qbh (x:Qb) (K m:Nat):Nat:=ones m+(recS x K).length
def wOf (x:Qb) (K m:Nat):List Nat:=setL (nLim x) m++(recS x K).map λc=>nLim x+c
structure BadM (x:Qb) (K m:Nat):Prop where
 good:QiK x K
 lt:m<2 ^ nLim x
 bad:QbN x m K=false
structure MinM (x:Qb) (K m:Nat):Prop where
 bad:BadM x K m
 min:∀K' m',BadM x K' m'->Qbh x K m<=Qbh x K' m'
def Qke (p:Nat->Bool):∀n,∃K,K<2 ^ n/\∀k,k<n->K.testBit k=p k
 | 0=>⟨0,by omega,λk hk=>by omega⟩
 | n+1=>by
  obtain⟨K,h1,h2⟩:=Qke (λk=>p (k+1)) n
  cases hp:p 0 with
  | true=>
   refine⟨2 * K+1,by rw[Nat.pow_succ];omega,λk hk=>?_⟩
   cases k with
   | zero=>rw[Qyb,hp]
   | succ k=>rw[QBH];exact h2 k (by omega)
  | false=>
   refine⟨2 * K,by rw[Nat.pow_succ];omega,λk hk=>?_⟩
   cases k with
   | zero=>rw[QvT,hp]
   | succ k=>rw[Qya];exact h2 k (by omega)
def QmM {n:Nat} {E F:Int->Bool} {l:List Qk} {r:List (Int×Int)} (h:∀k:Nat,k<n->E (k:Int)=F (k:Int)):QhA E n l r=QhA F n l r:=by
 have key:∀(f:Nat) (v:List Int),QiG E n l r f v=QiG F n l r f v:=by
  intro f
  induction f with
  | zero=>intro v;rfl
  | succ f ih=>
   intro v;unfold QiG
   cases rnd l r v with
   | none=>rfl
   | some w=>dsimp only;rw[Qui h,ih w]
 exact key _ _
section
variable {x:Qb} (hc:QZ x=[])
include hc
def Qjl {k:Nat} (hk:k<x.Xa.length) {c:Nat} (h:c∈cyc x k):c<(Qao x).length/\dK x c=(k:Int):=by
 have hne:cycN x (k:Int) (λ_=>true)≠[]:=λe=>by unfold cyc at h;rw[e] at h;cases h
 have:=(Qna hc (by omega) (by omega) _ hne).1 c h;exact⟨this.1,this.2.1⟩
def QwN {k:Nat} (hk:k<x.Xa.length):(cyc x k).Nodup:=by
 by_cases hne:cycN x (k:Int) (λ_=>true)=[]
 ·unfold cyc;rw[hne];exact nodup_nil
 ·exact (Qna hc (by omega) (by omega) _ hne).2.1
omit hc in
def QgH {K c:Nat}:c∈recS x K↔∃k,k<x.Xa.length/\K.testBit k=true/\c∈cyc x k:=by
 unfold recS;simp only[ZM,ZD];constructor
 ·rintro ⟨k,hk,h⟩;split at h
  ·next hb=>exact⟨k,hk,hb,h⟩
  ·cases h
 ·rintro ⟨k,hk,hb,h⟩;exact⟨k,hk,by rw[Zc hb];exact h⟩
def QjF (K:Nat):(recS x K).Nodup:=by
 unfold recS;refine QgE (λc=>(dK x c).toNat) _ _ λk hk=>⟨?_,λc h=>?_⟩
 ·split
  ·exact QwN hc hk
  ·exact nodup_nil
 ·split at h
  ·have:=(Qjl hc hk h).2;omega
  ·cases h
def QrC {K c:Nat} (h:c∈recS x K):c<(Qao x).length:=by obtain⟨k,hk,_,h⟩:=QgH.1 h;exact (Qjl hc hk h).1
def Qtg (K:Nat):(recS x K).length<=(Qao x).length:=by
 have:=Qhe _ (range (Qao x).length) (QjF hc K) λc h=>ZD.2 (QrC hc h)
 rwa [ZL] at this
omit hc in
def Qk0 (f m:Nat):(setL f m).Nodup:=Pairwise.sublist filter_sublist (nodup_range)
def QB8 (K m:Nat):(wOf x K m).Nodup:=by
 unfold wOf;refine nodup_append.2 ⟨Qk0 _ _,?_,λa ha b hb e=>?_⟩
 ·show Pairwise _ _;rw[pairwise_map];exact (QjF hc K).imp λh e=>h (by omega)
 ·obtain⟨c,_,rfl⟩:=ZE.1 hb;have:=(Qgn.1 ha).1;omega
def w_lt {K m i:Nat} (h:i∈wOf x K m):i<nLim x+(Qao x).length:=by
 unfold wOf at h;rcases Zt.1 h with h | h
 ·have:=(Qgn.1 h).1;omega
 ·obtain⟨c,hcm,rfl⟩:=ZE.1 h;have:=QrC hc hcm;omega
omit hc in
def Qqi {K m i:Nat} (hi:i<nLim x):i∈wOf x K m↔m.testBit i=true:=by
 unfold wOf;rw[Zt,Qgn];constructor
 ·rintro (h | h)
  ·exact h.2
  ·obtain⟨c,_,e⟩:=ZE.1 h;omega
 ·exact λh=>.inl ⟨hi,h⟩
omit hc in
def Qoo {K m c:Nat}:nLim x+c∈wOf x K m↔c∈recS x K:=by
 unfold wOf;rw[Zt];constructor
 ·rintro (h | h)
  ·have:=(Qgn.1 h).1;omega
  ·obtain⟨d,hd,e⟩:=ZE.1 h;have:d=c:=by omega
   rw[<-this];exact hd
 ·exact λh=>.inr (ZE.2 ⟨c,h,rfl⟩)
omit hc in
def Qk1 {K m:Nat} (h16:nLim x<=16) (hm:m<2 ^ nLim x):(wOf x K m).length=Qbh x K m:=by unfold wOf Qbh;rw[Ze,Zv,QeD _ _ h16 hm]
def QyE {k:Nat} (hk:k<x.Xa.length) {I:Nat->Bool} {b:Bool} (h1:b=true->NegK x (k:Int) λj=>I j=true) (h2:b=false->¬NegK x (k:Int) λj=>I j=true):(!(cycN x (k:Int) I).isEmpty)=b:=by
 have h:=(QoY hc (k:=(k:Int)) (by omega) (by omega) I).1
 cases b with
 | true=>
  have:=h.2 (h1 rfl)
  cases hC:cycN x (k:Int) I with
  | nil=>exact absurd hC this
  | cons a l=>rfl
 | false=>
  cases hC:cycN x (k:Int) I with
  | nil=>rfl
  | cons a l=>exact absurd (h.1 (by rw[hC];simp)) (h2 rfl)
def Qo2 {k:Nat} (hk:k<x.Xa.length) (hne:cyc x k≠[]):(NegK x (k:Int) λj=>j∈cyc x k)/\∀c∈cyc x k,¬NegK x (k:Int) λj=>j∈cyc x k/\j≠c:=
 have h:=Qna hc (k:=(k:Int)) (by omega) (by omega) _ hne
 ⟨h.2.2.1,h.2.2.2⟩
def QlZ {I:Nat->Bool} {m K:Nat} (hm:∀i,i<nLim x->I i=m.testBit i) (hK:∀k,k<x.Xa.length->(K.testBit k=true->NegK x (k:Int) λj=>I (nLim x+j)=true)/\(K.testBit k=false->¬NegK x (k:Int) λj=>I (nLim x+j)=true)):Qcs x I=QbN x m K:=by unfold Qcs QbN;rw[QlX (p:=I) (q:=λi=>m.testBit i) (λi hi=>hm i hi)];refine QmM λk hk=>?_;rw[Zq];exact QyE hc hk (hK k hk).1 (hK k hk).2
omit hc in
def QyF {k:Int} {I:Nat->Prop} (h:NegK x k I):∃j,dK x j=k/\I j:=by
 obtain⟨i,es,h1,h2,h3⟩:=h
 cases es with
 | nil=>simp[esum] at h2
 | cons e es=>obtain⟨j,_,j2,j3,_⟩:=h3 e (Zn ..);exact⟨j,j2,j3⟩
def Qo3 {K k:Nat} (hg:QiK x K) (hk:k<x.Xa.length):(K.testBit k=true->NegK x (k:Int) λj=>j∈recS x K)/\(K.testBit k=false->¬NegK x (k:Int) λj=>j∈recS x K):=by
 refine⟨λhb=>(Qo2 hc hk (hg.2 k hk hb)).1.mono λj _ hj=>QgH.2 ⟨k,hk,hb,hj⟩,λhb hn=>?_⟩;obtain⟨j,hj,hr⟩:=QyF hn;obtain⟨k',hk',hb',hjc⟩:=QgH.1 hr;have:=(Qjl hc hk' hjc).2;have:k'=k:=by omega
 subst this;rw[hb] at hb';cases hb'
def w_kept {js:List Nat} {K m:Nat} (hg:QiK x K) (hj:∀i,i∈js↔i∈wOf x K m):Qcs x (λi=>js.contains i)=QbN x m K:=by
 refine QlZ hc (λi hi=>?_) (λk hk=>?_)
 ·rw[ZO,contains_iff_mem,hj,Qqi hi]
 ·have e:(λj=>js.contains (nLim x+j)=true)=λj=>j∈recS x K:=by
   funext j
   rw[contains_iff_mem,hj,Qoo]
  rw[e];exact Qo3 hc hg hk
def w_less {js:List Nat} {K m a:Nat} (h16:nLim x<=16) (hmin:MinM x K m) (ha:a∈wOf x K m) (hj:∀i,i∈js↔i∈wOf x K m/\i≠a):Qcs x (λi=>js.contains i)=true:=by
 have hg:=hmin.bad.good;by_cases hlim:a<nLim x
 ·obtain⟨m',h1,h2⟩:=Qke (λi=>m.testBit i&&decide (i≠a)) (nLim x);have e:Qcs x (λi=>js.contains i)=QbN x m' K:=by
   refine QlZ hc (λi hi=>?_) (λk hk=>?_)
   ·rw[h2 i hi,ZO,contains_iff_mem,hj,Qqi hi];simp
   ·have e:(λj=>js.contains (nLim x+j)=true)=λj=>j∈recS x K:=by
     funext j
     rw[contains_iff_mem,hj,Qoo];exact propext ⟨λh=>h.1,λh=>⟨h,by omega⟩⟩
    rw[e];exact Qo3 hc hg hk
  rw[e]
  cases hp:QbN x m' K with
  | true=>rfl
  | false=>
   exfalso;have hle:=hmin.min K m' ⟨hg,h1,hp⟩;have hbit:=(Qqi hlim).1 ha;unfold Qbh at hle;rw[<-QeD _ _ h16 h1,<-QeD _ _ h16 hmin.bad.lt] at hle;have hin:a∈setL (nLim x) m:=Qgn.2 ⟨hlim,hbit⟩;have hl:=Qhe (setL (nLim x) m') ((setL (nLim x) m).erase a) (Qk0 _ _) λi hi=>by obtain⟨i1,i2⟩:=Qgn.1 hi;rw[h2 i i1] at i2;simp only[Zi,Zo] at i2;exact ((Qk0 _ _).mem_erase_iff).2 ⟨i2.2,Qgn.2 ⟨i1,i2.1⟩⟩
   rw[length_erase_of_mem hin] at hl;have:0<(setL (nLim x) m).length:=length_pos_of_mem hin;omega
 ·obtain⟨c,rfl⟩:∃c,a=nLim x+c:=⟨a - nLim x,by omega⟩;obtain⟨k0,hk0,hb0,hc0⟩:=QgH.1 (Qoo.1 ha);obtain⟨K',h1,h2⟩:=Qke (λk=>K.testBit k&&decide (k≠k0)) x.Xa.length;have hg':QiK x K':=⟨h1,λk hk hb=>by
   rw[h2 k hk] at hb;simp only[Zi] at hb;exact hg.2 k hk hb.1⟩
  have e:Qcs x (λi=>js.contains i)=QbN x m K':=by
   refine QlZ hc (λi hi=>?_) (λk hk=>?_)
   ·rw[ZO,contains_iff_mem,hj,Qqi hi];exact⟨λh=>h.1,λh=>⟨h,by omega⟩⟩
   ·have e:(λj=>js.contains (nLim x+j)=true)=λj=>j∈recS x K/\j≠c:=by
     funext j
     rw[contains_iff_mem,hj,Qoo];exact propext ⟨λh=>⟨h.1,λe=>h.2 (by rw[e])⟩,λh=>⟨h.1,λe=>h.2 (by omega)⟩⟩
    rw[e,h2 k hk];refine⟨λhb=>?_,λhb hn=>?_⟩
    ·simp only[Zi,Zo] at hb;refine (Qo2 hc hk (hg.2 k hk hb.1)).1.mono λj hdk hj=>⟨QgH.2 ⟨k,hk,hb.1,hj⟩,λe=>?_⟩;have h3:=(Qjl hc hk0 hc0).2;rw[<-e,hdk] at h3;exact hb.2 (by omega)
    ·by_cases hbk:K.testBit k=true
     ·rw[hbk,Bool.true_and] at hb;have hkk:k=k0:=by simpa using hb
      subst hkk;refine (Qo2 hc hk (hg.2 k hk hbk)).2 c hc0 (hn.mono λj hdk ⟨hj1,hj2⟩=>⟨?_,hj2⟩);obtain⟨k',hk',_,hjc⟩:=QgH.1 hj1;have h3:=(Qjl hc hk' hjc).2;have:k'=k:=by omega
      rw[<-this];exact hjc
     ·exact (Qo3 hc hg hk).2 (by simpa using hbk) (hn.mono λj _ h=>h.1)
  rw[e]
  cases hp:QbN x m K' with
  | true=>rfl
  | false=>
   exfalso;have hle:=hmin.min K' m ⟨hg',hmin.bad.lt,hp⟩;unfold Qbh at hle;have hin:c∈recS x K:=Qoo.1 ha;have hl:=Qhe (recS x K') ((recS x K).erase c) (QjF hc _) λi hi=>by obtain⟨k',hk',hb',hic⟩:=QgH.1 hi;rw[h2 k' hk'] at hb';simp only[Zi,Zo] at hb';refine ((QjF hc _).mem_erase_iff).2 ⟨λe=>?_,QgH.2 ⟨k',hk',hb'.1,hic⟩⟩;have h3:=(Qjl hc hk' hic).2;have h4:=(Qjl hc hk0 hc0).2;rw[e,h4] at h3;exact hb'.2 (by omega)
   rw[length_erase_of_mem hin] at hl;have:0<(recS x K).length:=length_pos_of_mem hin;omega
def QrD {K m:Nat} (h16:nLim x<=16) (h:BadM x K m):0<Qbh x K m:=by
 rcases Nat.eq_zero_or_pos (Qbh x K m) with h0 | h0
 ·exfalso;unfold Qbh at h0;have h1:(setL (nLim x) m).length=0:=by rw[QeD _ _ h16 h.lt];omega
  have h2:recS x K=[]:=ZI (by omega);have hK:∀k,k<x.Xa.length->K.testBit k=false:=λk hk=>by
   cases hb:K.testBit k with
   | false=>rfl
   | true=>
    have hne:=h.good.2 k hk hb
    cases hcy:cyc x k with
    | nil=>exact absurd hcy hne
    | cons c l=>have:c∈recS x K:=QgH.2 ⟨k,hk,hb,by rw[hcy];exact Zn ..⟩;rw[h2] at this;cases this
  have hst:StOk x.Xa.length (Qew x) (QeL x):=Qh3 hc;have hp:QbN x m K=true:=by
   unfold QbN;rw[Qwr (Qom hst.lim _) hst.refP];refine⟨replicate x.Xa.length 0,by simp,λz hz=>by rw[(mem_replicate.1 hz).2];omega,λy hy=>?_,λa b _ hp=>?_,λk k0 k1 hE=>?_⟩
   ·obtain⟨i,hi,hb⟩:=Qmv.1 hy;have:i∈setL (nLim x) m:=Qgn.2 ⟨(Zg.1 hi).1,hb⟩;rw[ZI h1] at this;cases this
   ·exfalso;have:nth (replicate x.Xa.length 0) a=0:=by
     unfold nth;rw[Zf,getElem?_replicate];split<;>rfl
    omega
   ·unfold nth;rw[Zf,getElem?_replicate];split<;>rfl
  rw[h.bad] at hp;cases hp
 ·exact h0
def QyG (h:Qdu x=false):∃K m,BadM x K m/\Qbh x K m<=nLim x+(Qao x).length\/16<nLim x:=by
 by_cases h16:nLim x<=16
 ·obtain⟨K,k1,k2⟩:=Qke (λk=>!(cyc x k).isEmpty) x.Xa.length;obtain⟨m,m1,m2⟩:=Qke (λ_=>true) (nLim x);refine⟨K,m,.inl ⟨⟨⟨k1,λk hk hb e=>?_⟩,m1,?_⟩,?_⟩⟩
  ·rw[k2 k hk,e] at hb;cases hb
  ·rw[<-h];unfold QbN Qdu;rw[QlX (p:=λi=>m.testBit i) (q:=λ_=>true) (λi hi=>m2 i hi)];refine QmM λk hk=>?_;rw[Zq,k2 k hk];rfl
  ·unfold Qbh;have h1:=Qtg hc K;rw[<-QeD _ _ h16 m1];have h2:=length_filter_le (λi=>m.testBit i) (range (nLim x));rw[ZL] at h2;unfold setL;omega
 ·exact⟨0,0,.inr (by omega)⟩
end
def nAll (x:Qb):Nat:=nLim x+(Qao x).length
def QiL (x:Qb) (K:Nat) (R:List Nat) (s:List Nat) (m:Nat):List Nat⊕List Nat:=
 if (!s.isEmpty&&decide (R.length+ones m>=s.length))||decide (R.length+ones m>nAll x) then .inr s
 else if QbN x m K=true then .inl s else .inr (setL (nLim x) m++R.map λc=>nLim x+c)
def goZ (f:List Nat->Nat->List Nat⊕List Nat):List Nat->List Nat->List Nat
 | [],s=>s
 | m::l,s=>match f s m with | .inl s'=>goZ f l s' | .inr s'=>s'
def QrE {x:Qb} (h16:nLim x<=16) {K:Nat} (hg:QiK x K):∀(l:List Nat),l.Pairwise (λa b=>ones a<=ones b)->(∀m∈l,m<2 ^ nLim x)->∀s:List Nat,
  (goZ (QiL x K (recS x K)) l s=s/\∀m∈l,QbN x m K=false->Qbh x K m<=nAll x->s≠[]/\s.length<=Qbh x K m)\/
  (∃m∈l,goZ (QiL x K (recS x K)) l s=wOf x K m/\QbN x m K=false/\Qbh x K m<=nAll x/\(s=[]\/Qbh x K m<s.length)/\∀m'∈l,QbN x m' K=false->Qbh x K m<=Qbh x K m')
 | [],_,_,s=>.inl ⟨rfl,λm hm=>by cases hm⟩
 | m::l,hp,hl,s=>by
  obtain⟨hp1,hp2⟩:=pairwise_cons.1 hp;have hsz:∀m'∈m::l,ones m<=ones m':=λm' hm'=>by
   rcases Zp.1 hm' with rfl | hm'
   ·exact Zx _
   ·exact hp1 m' hm'
  unfold goZ QiL;by_cases hstop:((!s.isEmpty&&decide ((recS x K).length+ones m>=s.length))||decide ((recS x K).length+ones m>nAll x))=true
  ·rw[Zc hstop];refine .inl ⟨rfl,λm' hm' _ hle=>?_⟩;have:=hsz m' hm';unfold Qbh at hle ⊢;simp only[Zz,Zi,Zo,Yq,isEmpty_eq_false_iff] at hstop;rcases hstop with⟨h1,h2⟩ | h1
   ·exact⟨h1,by omega⟩
   ·omega
  ·rw[Zd hstop];simp only[Zz,Zi,Zo,Yq,isEmpty_eq_false_iff,not_or,not_and] at hstop
   cases hpm:QbN x m K with
   | true=>
    rw[Zc rfl];dsimp only;rcases QrE h16 hg l hp2 (λm hm=>hl m (Zs _ hm)) s with⟨h1,h2⟩ | ⟨m1,hm1,h1,h2,h3,h4,h5⟩
    ·refine .inl ⟨h1,λm' hm' hb hle=>?_⟩;rcases Zp.1 hm' with rfl | hm'
     ·rw[hpm] at hb;cases hb
     ·exact h2 m' hm' hb hle
    ·refine .inr ⟨m1,Zs _ hm1,h1,h2,h3,h4,λm' hm' hb=>?_⟩;rcases Zp.1 hm' with rfl | hm'
     ·rw[hpm] at hb;cases hb
     ·exact h5 m' hm' hb
   | false=>
    rw[Zd (by simp)];refine .inr ⟨m,Zn ..,rfl,hpm,?_,?_,λm' hm' _=>?_⟩
    ·unfold Qbh;omega
    ·by_cases hs:s=[]
     ·exact .inl hs
     ·have:=hstop.1 hs;refine .inr ?_;unfold Qbh;omega
    ·have:=hsz m' hm';unfold Qbh;omega
def recP (x:Qb) (K:Nat):List Nat:=(range x.Xa.length).foldl (λacc k=>if K.testBit k=true then (if (cyc x k).isEmpty then replicate (nAll x+1) 0 else acc++cyc x k) else acc) []
def QpI {x:Qb} {K:Nat} (h:∀k,k<x.Xa.length->K.testBit k=true->cyc x k≠[]):recP x K=recS x K:=by
 have key:∀n,n<=x.Xa.length->(range n).foldl (λacc k=>if K.testBit k=true then (if (cyc x k).isEmpty then replicate (nAll x+1) 0 else acc++cyc x k) else acc) []=(range n).flatMap λk=>if K.testBit k=true then cyc x k else []:=by
  intro n
  induction n with
  | zero=>intro _;rfl
  | succ n ih=>
   intro hn;rw[ZX,foldl_append,ZF,ih (by omega),Yr];simp only[foldl_cons,foldl_nil];by_cases hb:K.testBit n=true
   ·rw[Zc hb,Zc hb];have:=h n (by omega) hb;rw[Zd (by simpa using this)]
   ·rw[Zd hb,Zd hb,Yh]
 exact key _ (Zx _)
def QrF {x:Qb} {K k0:Nat} (h0:k0<x.Xa.length) (hb:K.testBit k0=true) (he:cyc x k0=[]):nAll x<(recP x K).length:=by
 have key:∀n,k0<n->nAll x<((range n).foldl (λacc k=>if K.testBit k=true then (if (cyc x k).isEmpty then replicate (nAll x+1) 0 else acc++cyc x k) else acc) []).length:=by
  intro n
  induction n with
  | zero=>intro h;omega
  | succ n ih=>
   intro hn;rw[ZX,foldl_append];simp only[foldl_cons,foldl_nil];by_cases hk:n=k0
   ·subst hk;rw[Zc hb,he,Zc (show ([]:List Nat).isEmpty=true from rfl),Yo];omega
   ·have:=ih (by omega);split
    ·split
     ·rw[Yo];omega
     ·rw[Ze];omega
    ·exact this
 exact key _ h0
def QyH {x:Qb} (hc:QZ x=[]) (K:Nat):(recP x K).length<=nAll x+1+200:=by
 have hn:=(Qan hc).kinds;have key:∀n,n<=x.Xa.length->((range n).foldl (λacc k=>if K.testBit k=true then (if (cyc x k).isEmpty then replicate (nAll x+1) 0 else acc++cyc x k) else acc) []).length<=nAll x+1+n * 12:=by
  intro n
  induction n with
  | zero=>intro _;simp
  | succ n ih=>
   intro hn;have:=ih (by omega);rw[ZX,foldl_append];simp only[foldl_cons,foldl_nil];split
   ·split
    ·rw[Yo];omega
    ·have h12:(cyc x n).length<=12:=by unfold cyc;rw[Qkc];exact (QlW hc (by omega) (by omega) _).1
     rw[Ze];omega
   ·omega
 have:=key _ (Zx _);unfold recP;omega
def goK (x:Qb) (s:List Nat) (K:Nat):List Nat:=goZ (QiL x K (recP x K)) (QdJ (nLim x)) s
def QB9 {x:Qb} {K:Nat} (hg:¬QiK x K) (hlt:K<2 ^ x.Xa.length) (s:List Nat):goK x s K=s:=by
 have:∃k,k<x.Xa.length/\K.testBit k=true/\cyc x k=[]:=Classical.byContradiction λhn=>hg ⟨hlt,λk hk hb he=>hn ⟨k,hk,hb,he⟩⟩;obtain⟨k,hk,hb,he⟩:=this;have hl:=QrF hk hb he;unfold goK
 cases hs:QdJ (nLim x) with
 | nil=>rfl
 | cons m l=>unfold goZ QiL;rw[Zc (by simp;omega)]
structure QiM (x:Qb) (P:List Nat) (s:List Nat):Prop where
 none:s=[]->∀K∈P,∀m,BadM x K m->nAll x<Qbh x K m
 some:s≠[]->∃K m,BadM x K m/\s=wOf x K m/\Qbh x K m<=nAll x/\∀K'∈P,∀m',BadM x K' m'->Qbh x K m<=Qbh x K' m'
def QrG {x:Qb} (hc:QZ x=[]) (h16:nLim x<=16) {P s:List Nat} (h:QiM x P s) {K:Nat} (hK:K<2 ^ x.Xa.length):QiM x (P++[K]) (goK x s K):=by
 by_cases hg:QiK x K
 ·have hl:∀m∈QdJ (nLim x),m<2 ^ nLim x:=λm hm=>(Qfc h16).1 hm;have hgo:goK x s K=goZ (QiL x K (recS x K)) (QdJ (nLim x)) s:=by unfold goK;rw[QpI hg.2]
  rw[hgo];rcases QrE h16 hg (QdJ (nLim x)) (Qq4 _) hl s with⟨h1,h2⟩ | ⟨m,hm,h1,h2,h3,h4,h5⟩
  ·rw[h1];refine⟨λhs K' hK' m hb=>?_,λhs=>?_⟩
   ·rcases Zt.1 hK' with hK' | hK'
    ·exact h.none hs K' hK' m hb
    ·obtain rfl:=Zh.1 hK';rcases Nat.lt_or_ge (nAll x) (Qbh x K' m) with hlt | hle
     ·exact hlt
     ·exact absurd hs (h2 m ((Qfc h16).2 hb.lt) hb.bad hle).1
   ·obtain⟨K1,m1,b1,b2,b3,b4⟩:=h.some hs;refine⟨K1,m1,b1,b2,b3,λK' hK' m' hb=>?_⟩;rcases Zt.1 hK' with hK' | hK'
    ·exact b4 K' hK' m' hb
    ·obtain rfl:=Zh.1 hK';rcases Nat.lt_or_ge (nAll x) (Qbh x K' m') with hlt | hle
     ·omega
     ·have:=(h2 m' ((Qfc h16).2 hb.lt) hb.bad hle).2;rw[b2,Qk1 h16 b1.lt] at this;exact this
  ·have hbad:BadM x K m:=⟨hg,hl m hm,h2⟩;have hlen:=Qk1 (x:=x) (K:=K) h16 hbad.lt;have hpos:=QrD hc h16 hbad;rw[h1];refine⟨λhs=>?_,λhs=>⟨K,m,hbad,rfl,h3,λK' hK' m' hb=>?_⟩⟩
   ·rw[hs] at hlen;simp at hlen;omega
   ·rcases Zt.1 hK' with hK' | hK'
    ·rcases h4 with h4 | h4
     ·have:=h.none h4 K' hK' m' hb;omega
     ·obtain⟨K1,m1,b1,b2,b3,b4⟩:=h.some (λe=>by rw[e] at h4;simp at h4);have:=b4 K' hK' m' hb;rw[b2,Qk1 h16 b1.lt] at h4;omega
    ·obtain rfl:=Zh.1 hK';exact h5 m' ((Qfc h16).2 hb.lt) hb.bad
 ·rw[QB9 hg hK];refine⟨λhs K' hK' m hb=>?_,λhs=>?_⟩
  ·rcases Zt.1 hK' with hK' | hK'
   ·exact h.none hs K' hK' m hb
   ·obtain rfl:=Zh.1 hK';exact absurd hb.good hg
  ·obtain⟨K1,m1,b1,b2,b3,b4⟩:=h.some hs;refine⟨K1,m1,b1,b2,b3,λK' hK' m' hb=>?_⟩;rcases Zt.1 hK' with hK' | hK'
   ·exact b4 K' hK' m' hb
   ·obtain rfl:=Zh.1 hK';exact absurd hb.good hg
def Qdg (x:Qb):List Nat:=(QdJ x.Xa.length).foldl (goK x) []
def QpJ {x:Qb} (hc:QZ x=[]) (h16:nLim x<=16):∀(l P s:List Nat),(∀K∈l,K<2 ^ x.Xa.length)->QiM x P s->QiM x (P++l) (l.foldl (goK x) s)
 | [],P,s,_,h=>by rw[Yh];exact h
 | K::l,P,s,hl,h=>by have:=QpJ hc h16 l (P++[K]) (goK x s K) (λK hK=>hl K (Zs _ hK)) (QrG hc h16 h (hl K (Zn ..)));rw[ZA] at this;exact this
def Qnf {x:Qb} (hc:QZ x=[]) (h16:nLim x<=16) (hb:Qdu x=false):∃K m,MinM x K m/\Qdg x=wOf x K m/\Qbh x K m<=nAll x:=by
 have hk6:=(Qan hc).kinds;have hB:QiM x (QdJ x.Xa.length) (Qdg x):=by
  have:=QpJ hc h16 (QdJ x.Xa.length) [] [] (λK hK=>(Qfc (by omega)).1 hK) ⟨λ_ K hK=>(by cases hK),λh=>absurd rfl h⟩
  rwa [Ye] at this
 have hall:∀K m,BadM x K m->K∈QdJ x.Xa.length:=λK m h=>(Qfc (by omega)).2 h.good.1;have hne:Qdg x≠[]:=λe=>by
  obtain⟨K,m,h | h⟩:=QyG hc hb
  ·have:=hB.none e K (hall K m h.1) m h.1;have:=h.2;unfold nAll at *;omega
  ·omega
 obtain⟨K,m,h1,h2,h3,h4⟩:=hB.some hne;exact⟨K,m,⟨h1,λK' m' hb=>h4 K' (hall K' m' hb) m' hb⟩,h2,h3⟩
def QiM.len {x:Qb} (h16:nLim x<=16) {P s:List Nat} (h:QiM x P s):s.length<=nAll x:=by
 by_cases e:s=[]
 ·rw[e];simp
 ·obtain⟨K,m,h1,h2,h3,_⟩:=h.some e;rw[h2,Qk1 h16 h1.lt];exact h3
def QhR {x:Qb} (hc:QZ x=[]):nAll x<=300:=by have hv:=Qan hc;have h1:=Qfg hv;have h2:=Qje hv;rw[Qhf] at h2;unfold nAll;omega
def Qjm (s:List Nat):(ints s).isEmpty=s.isEmpty:=by unfold ints;cases s<;>rfl
def QbX (s:List Nat):(ints s).length=s.length:=by unfold ints;simp
def QrH (a b:List Nat):ints (a++b)=ints a++ints b:=by unfold ints;simp
def cycs (x:Qb):List (List Int):=(range x.Xa.length).map λk=>ints (cyc x k)
def QrI {x:Qb} {k:Nat} (hk:k<x.Xa.length):idx (cycs x) (k:Int)=some (ints (cyc x k)):=by rw[QI (by unfold cycs;simpa using hk)];unfold cycs;simp
def Ql0 {n:Nat} (h:n<=16) {m:Nat} (hm:m<2 ^ n):m<2 ^ 64:=ZK hm (Nat.pow_le_pow_right (by omega) (by omega))
def QyI {x:Qb} (hc:QZ x=[]) {K:Nat} (hK:K<2 ^ x.Xa.length) {names:List Str} (hn:names.length=nAll x):
  (Qm (λ(s1114:Int×List Int)=>((if (decide (s1114.1<((x).Xa.length:Int)))=true then (nn s1114.1).bind λ_=>((if ((iand .u64 (ishr .u64 (K:Int) s1114.1) (1:Int))==(1:Int))=true then (idx (cycs x) s1114.1).bind λt73=>(rm (s1114.2.length+t73.length)).bind λ_=>(idx (cycs x) s1114.1).bind λt78=>((if (t78.isEmpty)=true then (mk (i64.wrap ((names.length:Int)+(1:Int))) (0:Int)).bind λt84=>(some t84) else (some (s1114.2++t73)))).bind λ(p1631:List Int)=>(some p1631) else (some s1114.2))).bind λ(p1618:List Int)=>(some (.inl ((i64.wrap (s1114.1+(1:Int))),p1618))) else (some (.inr s1114.2))):Option ((Int×List Int)⊕((List Int))))) ((0:Int),([]:List Int)))=some (ints (recP x K)):=by
 have hk6:=(Qan hc).kinds;have h300:=QhR hc
 let g:List Nat->Nat->List Nat:=λacc k=>if K.testBit k=true then (if (cyc x k).isEmpty then replicate (nAll x+1) 0 else acc++cyc x k) else acc
 have hl:∀n,n<=x.Xa.length->((range n).foldl g []).length<=301+n * 12:=by
  intro n
  induction n with
  | zero=>intro _;simp
  | succ n ih=>
   intro hn;have:=ih (by omega);rw[ZX,foldl_append];simp only[foldl_cons,foldl_nil];show (if K.testBit n=true then (if (cyc x n).isEmpty then replicate (nAll x+1) 0 else (range n).foldl g []++cyc x n) else (range n).foldl g []).length<=_;split
   ·split
    ·rw[Yo];omega
    ·have h12:(cyc x n).length<=12:=by unfold cyc;rw[Qkc];exact (QlW hc (by omega) (by omega) _).1
     rw[Ze];omega
   ·omega
 refine (QbZ x.Xa.length (λn=>((n:Int),ints ((range n).foldl g []))) (ints (recP x K)) (λk hk=>?_) ?_)
 ·have hlk:=hl k (by omega);dsimp only;rw[Zc (by simpa using hk),show nn (k:Int)=some () by unfold nn;rw[Zc (by omega)]];simp only[Za];rw[Qn4 (Ql0 (by omega) hK) (by omega),Qw hk (by omega),ZX,foldl_append];simp only[foldl_cons,foldl_nil];show _=some (Sum.inl (_,ints (if K.testBit k=true then (if (cyc x k).isEmpty then replicate (nAll x+1) 0 else (range k).foldl g []++cyc x k) else (range k).foldl g [])))
  cases hb:K.testBit k with
  | false=>rfl
  | true=>
   have h12:(cyc x k).length<=12:=by unfold cyc;rw[Qkc];exact (QlW hc (by omega) (by omega) _).1
   rw[Zc rfl,Zc rfl,QrI hk];simp only[Za];rw[QaT (by rw[QbX,QbX];omega)];simp only[Za];rw[Qjm]
   cases he:(cyc x k).isEmpty with
   | false=>simp[QrH]
   | true=>rw[Zc rfl,Zc rfl,hn,w64 (by omega) (by omega),show ((nAll x:Nat):Int)+1=((nAll x+1:Nat):Int) by omega,Qht _ _ (by omega)];simp only[Za];unfold ints;rw[map_replicate];rfl
 ·dsimp only;rw[Zd (by simp)];rfl
def QCa {x:Qb} (h16:nLim x<=16) {m:Nat} (hm:m<2 ^ nLim x):
  (Qm (λ(s1551:Int×List Int)=>((if (decide (s1551.1<((Qbp x).Xo.length:Int)))=true then (nn s1551.1).bind λ_=>((if ((iand .u64 (ishr .u64 (m:Int) s1551.1) (1:Int))==(1:Int))=true then (rm (s1551.2.length+[s1551.1].length)).bind λ_=>(some (s1551.2++[s1551.1])) else (some s1551.2))).bind λ(p1605:List Int)=>(some (.inl ((i64.wrap (s1551.1+(1:Int))),p1605))) else (some (.inr s1551.2))):Option ((Int×List Int)⊕((List Int))))) ((0:Int),([]:List Int)))=some (ints (setL (nLim x) m)):=by
 have hlen:(Qbp x).Xo.length=nLim x:=rfl;rw[hlen];refine (Qmx (range (nLim x)) (λi=>m.testBit i) (λ(i:Nat)=>(i:Int)) (λk hk acc ha=>?_) (λacc=>by rw[ZL];dsimp only;rw[Zd (by simp)])).trans rfl;rw[ZL] at hk;dsimp only;rw[Zc (by simpa using hk),show nn (k:Int)=some () by unfold nn;rw[Zc (by omega)]];simp only[Za];rw[Qn4 (Ql0 h16 hm) (by omega),Qw hk (by omega),getElem_range]
 cases m.testBit k with
 | false=>rfl
 | true=>rw[Zc rfl,Zc rfl,QaT (by simp;omega)];rfl
def QwO {Y:List Int->Int->Option (List Int⊕List Int)} {f:List Nat->Nat->List Nat⊕List Nat}:∀{l:List Nat} (_:∀m∈l,∀s,s.length<=1000->(∀s',f s m=.inl s'->Y (ints s) (m:Int)=some (.inl (ints s')))/\(∀s',f s m=.inr s'->Y (ints s) (m:Int)=some (.inr (ints s')))) (_:∀m∈l,∀s s',s.length<=1000->f s m=.inl s'->s'.length<=1000) (s:List Nat),s.length<=1000->
  goS Y l (ints s)=some (.inl (ints (goZ f l s)))\/goS Y l (ints s)=some (.inr (ints (goZ f l s)))
 | [],_,_,s,_=>.inl rfl
 | m::l,h,h2,s,hs=>by
  obtain⟨h3,h4⟩:=h m (Zn ..) s hs;rw[QhK];unfold goZ
  cases hf:f s m with
  | inl s'=>rw[h3 s' hf];exact QwO (λm hm=>h m (Zs _ hm)) (λm hm=>h2 m (Zs _ hm)) s' (h2 m (Zn ..) s s' hs hf)
  | inr s'=>rw[h4 s' hf];exact .inr rfl
def QyJ {x:Qb} (hc:QZ x=[]) {R A:List Nat} (hR:∀c∈R,c<=1000) (hl:R.length<=1000) (hA:A.length<=1000):
  (Qm (λ(s1578:Int×List Int)=>((if (decide (s1578.1<((ints R).length:Int)))=true then (idx (ints R) s1578.1).bind λt138=>(rm (s1578.2.length+[(i64.wrap (((Qbp x).Xo.length:Int)+t138))].length)).bind λ_=>(some (.inl ((i64.wrap (s1578.1+(1:Int))),(s1578.2++[(i64.wrap (((Qbp x).Xo.length:Int)+t138))])))) else (some (.inr s1578.2))):Option ((Int×List Int)⊕((List Int))))) ((0:Int),ints A))=some (ints (A++R.map λc=>nLim x+c)):=by
 have hlen:(Qbp x).Xo.length=nLim x:=rfl;have h300:=QhR hc;rw[hlen];refine (QbZ R.length (λn=>((n:Int),ints (A++(R.take n).map λc=>nLim x+c))) (ints (A++R.map λc=>nLim x+c)) (λk hk=>?_) ?_) |>.trans rfl |> λh=>by simpa using h
 ·have hcm:=hR _ (Zk hk);have e1:(ints R)[k]'(by rw[QbX];exact hk)=((R[k]:Nat):Int):=by simp[ints]
  dsimp only;unfold nAll at h300;rw[QbX,Zc (by simpa using hk),QI (by rw[QbX];exact hk),e1];simp only[Za];rw[QaT (by rw[QbX];simp;omega),Qw hk (by omega),w64 (by omega) (by omega)];simp only[Za];have e2:ints (A++(R.take (k+1)).map λc=>nLim x+c)=ints (A++(R.take k).map λc=>nLim x+c)++[(nLim x:Int)+(R[k]:Int)]:=by rw[Zw hk,ZT,<-ZA,QrH (A++(R.take k).map λc=>nLim x+c)];simp[ints]
  rw[e2]
 ·dsimp only;rw[QbX,Zd (by simp),take_length]
def QwP {x:Qb} (hc:QZ x=[]) (h16:nLim x<=16) {K:Nat} (hK:K<2 ^ x.Xa.length) {names:List Str} (hn:names.length=nAll x) {s:List Nat} (hs:s.length<=1000):
  goS (λ(s1393:List Int) (m1394:Int)=>((Qcg m1394).bind λt96=>(if (((!s1393.isEmpty)&&(decide ((i64.wrap (((ints (recP x K)).length:Int)+t96))>=(s1393.length:Int))))||(decide ((i64.wrap (((ints (recP x K)).length:Int)+t96))>(names.length:Int))))=true then (some (.inr s1393)) else (QaJ (Qbp x) (λx0=>Qez x0 m1394) (λx0=>QeA x0 (K:Int))).bind λt115=>(if t115=true then (some (.inl s1393)) else (Qm (λ(s1551:Int×List Int)=>((if (decide (s1551.1<((Qbp x).Xo.length:Int)))=true then (nn s1551.1).bind λ_=>((if ((iand .u64 (ishr .u64 m1394 s1551.1) (1:Int))==(1:Int))=true then (rm (s1551.2.length+[s1551.1].length)).bind λ_=>(some (s1551.2++[s1551.1])) else (some s1551.2))).bind λ(p1605:List Int)=>(some (.inl ((i64.wrap (s1551.1+(1:Int))),p1605))) else (some (.inr s1551.2))):Option ((Int×List Int)⊕((List Int))))) ((0:Int),([]:List Int))).bind λ(p1574:(List Int))=>(Qm (λ(s1578:Int×List Int)=>((if (decide (s1578.1<((ints (recP x K)).length:Int)))=true then (idx (ints (recP x K)) s1578.1).bind λt138=>(rm (s1578.2.length+[(i64.wrap (((Qbp x).Xo.length:Int)+t138))].length)).bind λ_=>(some (.inl ((i64.wrap (s1578.1+(1:Int))),(s1578.2++[(i64.wrap (((Qbp x).Xo.length:Int)+t138))])))) else (some (.inr s1578.2))):Option ((Int×List Int)⊕((List Int))))) ((0:Int),p1574)).bind λ(p1591:(List Int))=>(some (.inr p1591)))):Option ((List Int)⊕(List Int)))) (QdJ (nLim x)) (ints s)=some (.inl (ints (goK x s K)))\/
  goS (λ(s1393:List Int) (m1394:Int)=>((Qcg m1394).bind λt96=>(if (((!s1393.isEmpty)&&(decide ((i64.wrap (((ints (recP x K)).length:Int)+t96))>=(s1393.length:Int))))||(decide ((i64.wrap (((ints (recP x K)).length:Int)+t96))>(names.length:Int))))=true then (some (.inr s1393)) else (QaJ (Qbp x) (λx0=>Qez x0 m1394) (λx0=>QeA x0 (K:Int))).bind λt115=>(if t115=true then (some (.inl s1393)) else (Qm (λ(s1551:Int×List Int)=>((if (decide (s1551.1<((Qbp x).Xo.length:Int)))=true then (nn s1551.1).bind λ_=>((if ((iand .u64 (ishr .u64 m1394 s1551.1) (1:Int))==(1:Int))=true then (rm (s1551.2.length+[s1551.1].length)).bind λ_=>(some (s1551.2++[s1551.1])) else (some s1551.2))).bind λ(p1605:List Int)=>(some (.inl ((i64.wrap (s1551.1+(1:Int))),p1605))) else (some (.inr s1551.2))):Option ((Int×List Int)⊕((List Int))))) ((0:Int),([]:List Int))).bind λ(p1574:(List Int))=>(Qm (λ(s1578:Int×List Int)=>((if (decide (s1578.1<((ints (recP x K)).length:Int)))=true then (idx (ints (recP x K)) s1578.1).bind λt138=>(rm (s1578.2.length+[(i64.wrap (((Qbp x).Xo.length:Int)+t138))].length)).bind λ_=>(some (.inl ((i64.wrap (s1578.1+(1:Int))),(s1578.2++[(i64.wrap (((Qbp x).Xo.length:Int)+t138))])))) else (some (.inr s1578.2))):Option ((Int×List Int)⊕((List Int))))) ((0:Int),p1574)).bind λ(p1591:(List Int))=>(some (.inr p1591)))):Option ((List Int)⊕(List Int)))) (QdJ (nLim x)) (ints s)=some (.inr (ints (goK x s K))):=by
 have hk6:=(Qan hc).kinds;have h300:=QhR hc;have hrl:=QyH hc K;unfold goK;refine QwO (f:=QiL x K (recP x K)) (λm hm s hs=>?_) (λm hm s s' hs h=>?_) s hs
 ·have hm2:=(Qfc h16).1 hm;have hones:ones m<=16:=by
   rw[<-QeD _ _ h16 hm2];have:=length_filter_le (λi=>m.testBit i) (range (nLim x));rw[ZL] at this;unfold setL;omega
  have hcond:((!(ints s).isEmpty)&&(decide ((i64.wrap (((ints (recP x K)).length:Int)+((ones m:Nat):Int)))>=((ints s).length:Int))))=(!s.isEmpty&&decide ((recP x K).length+ones m>=s.length)):=by rw[Qjm,QbX,QbX,w64 (by omega) (by omega)];congr 1;rw[ZO];simp;omega
  have hcond2:decide ((i64.wrap (((ints (recP x K)).length:Int)+((ones m:Nat):Int)))>(names.length:Int))=decide ((recP x K).length+ones m>nAll x):=by rw[QbX,w64 (by omega) (by omega),hn,ZO];simp;omega
  have hposs:QaJ (Qbp x) (λx0=>Qez x0 (m:Int)) (λx0=>QeA x0 (K:Int))=some (QbN x m K):=by
   refine (QjQ (s:=Qbp x) (n:=x.Xa.length) rfl (Qh3 hc) (p:=λi=>m.testBit i) (E:=λk=>K.testBit k.toNat) (λi hi=>?_) (λk hk=>?_)).trans rfl
   ·have hi:i<nLim x:=hi;unfold Qez;rw[show nn (i:Int)=some () by unfold nn;rw[Zc (by omega)]];simp only[Za];rw[Qn4 (Ql0 h16 hm2) (by omega)]
   ·unfold QeA;rw[show nn (k:Int)=some () by unfold nn;rw[Zc (by omega)]];simp only[Za];rw[Qn4 (Ql0 (by omega) hK) (by omega),Zq]
  rw[QsY (Ql0 h16 hm2)];simp only[Za];rw[hcond,hcond2];unfold QiL;by_cases hstop:((!s.isEmpty&&decide ((recP x K).length+ones m>=s.length))||decide ((recP x K).length+ones m>nAll x))=true
  ·rw[Zc hstop,Zc hstop];exact⟨λs' h=>(nomatch h),λs' h=>by obtain rfl:=Sum.inr.inj h;rfl⟩
  ·rw[Zd hstop,Zd hstop,hposs];simp only[Za]
   cases hpm:QbN x m K with
   | true=>rw[Zc rfl,Zc rfl];exact⟨λs' h=>by obtain rfl:=Sum.inl.inj h;rfl,λs' h=>(nomatch h)⟩
   | false=>
    have hf:¬(false=true):=by decide
    rw[Zd hf,Zd hf,QCa h16 hm2];simp only[Za];have hgood:QiK x K:=by refine Classical.byContradiction λhg=>?_;have:∃k,k<x.Xa.length/\K.testBit k=true/\cyc x k=[]:=Classical.byContradiction λhn=>hg ⟨hK,λk hk hb he=>hn ⟨k,hk,hb,he⟩⟩;obtain⟨k,hk,hb,he⟩:=this;have:=QrF hk hb he;apply hstop;simp;omega
    have hrec:=QpI hgood.2;have h1:∀c∈recP x K,c<=1000:=λc hcm=>by rw[hrec] at hcm;have:=QrC hc hcm;unfold nAll at h300;omega
    have h2:(setL (nLim x) m).length<=1000:=by rw[QeD _ _ h16 hm2];omega
    rw[QyJ hc h1 (by omega) h2];exact⟨λs' h=>(nomatch h),λs' h=>by obtain rfl:=Sum.inr.inj h;rfl⟩
 ·unfold QiL at h;split at h
  ·cases h
  ·split at h
   ·obtain rfl:=Sum.inl.inj h;exact hs
   ·cases h
def QrJ {x:Qb} (hc:QZ x=[]) (h16:nLim x<=16) {Y:List Int->Int->Option (List Int⊕List Int)} (hY:∀K:Nat,K<2 ^ x.Xa.length->∀s:List Nat,s.length<=1000->Y (ints s) (K:Int)=some (.inl (ints (goK x s K)))):
  ∀(l P s:List Nat),(∀K∈l,K<2 ^ x.Xa.length)->QiM x P s->goS Y l (ints s)=some (.inl (ints (l.foldl (goK x) s)))
 | [],_,_,_,_=>rfl
 | K::l,P,s,hl,h=>by have h300:=QhR hc;have hlen:=h.len h16;have hK:=hl K (Zn ..);rw[QhK,hY K hK s (by omega)];exact QrJ hc h16 hY l (P++[K]) _ (λK hK=>hl K (Zs _ hK)) (QrG hc h16 h hK)
def whyJ (x:Qb):List Nat:=(Qbo (ints (Qdg x))).map Int.toNat
def QjG (x:Qb):ints (whyJ x)=Qbo (ints (Qdg x)):=by
 unfold whyJ ints;rw[Yv];have:∀z∈Qbo (ints (Qdg x)),((λ(i:Nat)=>(i:Int)) ∘ Int.toNat) z=z:=λz hz=>by have:=(Qgm (ints (Qdg x))).mem_iff.1 hz;unfold ints at this;obtain⟨i,_,rfl⟩:=ZE.1 this;rfl
 refine (map_congr_left this).trans ?_;rw[map_id'];rfl
def QrK {x:Qb} {i:Nat}:i∈whyJ x↔i∈Qdg x:=by
 have h:∀(l:List Nat) (i:Nat),(i:Int)∈ints l↔i∈l:=λl i=>by
  unfold ints;rw[ZE];constructor
  ·rintro ⟨j,hj,e⟩;have:j=i:=by omega
   rw[<-this];exact hj
  ·exact λh=>⟨i,h,rfl⟩
 rw[<-h (whyJ x),QjG,(Qgm _).mem_iff,h]
def Qng {x:Qb}:(whyJ x).length=(Qdg x).length:=by have:=(Qgm (ints (Qdg x))).length_eq;rw[<-QjG,QbX,QbX] at this;exact this
def Qsm {x:Qb} (hn:(Qdg x).Nodup):(whyJ x).Pairwise (·< ·):=by
 have h1:=Qj6 (ints (Qdg x));have h2:(ints (Qdg x)).Nodup:=by unfold ints;show Pairwise _ _;rw[pairwise_map];exact hn.imp λh e=>h (by omega)
 have h3:(Qbo (ints (Qdg x))).Nodup:=(Qgm _).nodup_iff.2 h2;have h4:(Qbo (ints (Qdg x))).Pairwise (λa b=>a<b):=(Pairwise.and h1 h3).imp λ⟨a,b⟩=>by omega
 rw[<-QjG] at h4;unfold ints at h4;rw[pairwise_map] at h4;exact h4.imp λh=>by omega
def whyR (x:Qb):List Str×Int:=match QZ x with
 | p::_=>([],p.Code)
 | []=>if nLim x>16 then ([],4) else if Qdu x=true then ([],6) else ((whyJ x).map (Qbq x),0)
def QrL {x:Qb} (hs:Qb4 x):Qgc x=some (whyR x):=by
 unfold Qgc whyR;rw[Qrg hs];unfold Qjd
 cases hc:QZ x with
 | cons p l=>have:=Qgt (x:=x) (p:=p) (by rw[hc];exact Zn ..);dsimp only[Option.bind_some];rw[Zc (by simpa using this)]
 | nil=>
  have hv:=Qan hc;have hk6:=hv.kinds;have h300:=QhR hc;dsimp only[Option.bind_some];rw[Zd (by simp),Qrj hs hc];simp only[Za];have hlen:(Qbp x).Xo.length=nLim x:=rfl;by_cases h16:nLim x>16
  ·rw[Zc (decide_eq_true (by rw[hlen];omega)),Zc h16]
  ·rw[Zd (by rw[hlen];simp;omega),Zd h16,Qht _ _ (by omega)];simp only[Za];refine Qb8 x.Xa.length (λn=>((n:Int),((range n).map λk=>ints (cyc x k))++replicate (x.Xa.length - n) ([]:List Int))) (cycs x) (by simp) (λn hn'=>?_) ?_ ?_
   ·have hln:(((range n).map λk=>ints (cyc x k))++replicate (x.Xa.length - n) ([]:List Int)).length=x.Xa.length:=by simp;omega
    dsimp only;rw[Yo,Zc (by simpa using hn'),Qkd hc hn' (p:=λ_=>true) (λj _=>rfl)];simp only[Za];rw[QeC (by rw[hln];exact hn')];simp only[Za];rw[Qw hn' (by omega),set_append_right _ _ (by simp)];congr 3;have e2:x.Xa.length - n=(x.Xa.length - (n+1))+1:=by omega
    rw[e2,replicate_succ,Zv,ZL,Nat.sub_self,set_cons_zero,ZX,ZT,ZA];rfl
   ·dsimp only;rw[Yo,Zd (by simp),Nat.sub_self,replicate_zero,Yh];rfl
   ·have hbase:QaJ (Qbp x) (λx0=>Qh9 x0) (λx0=>QgQ x0 (cycs x))=some (Qdu x):=by
     refine (QjQ (s:=Qbp x) (n:=x.Xa.length) rfl (Qh3 hc) (p:=λ_=>true) (E:=λk=>!(cycN x k λ_=>true).isEmpty) (λi _=>rfl) (λk hk=>?_)).trans rfl;unfold QgQ;rw[QrI hk];simp only[Za];rw[Qjm];rfl
    rw[hbase];simp only[Za]
    cases hb:Qdu x with
    | true=>rw[Zc rfl,Zc rfl]
    | false=>
     have hf:¬(false=true):=by decide
     rw[Zd hf,Zd hf,Qs0 (by omega)];have hall:∀K∈QdJ x.Xa.length,K<2 ^ x.Xa.length:=λK hK=>(Qfc (by omega)).1 hK;have hW0:QiM x [] []:=⟨λ_ K hK=>(by cases hK),λh=>absurd rfl h⟩;refine (Ya (Option.bind · _) (QrJ hc (by omega) (λK hK s hs=>?_) (QdJ x.Xa.length) [] [] hall hW0)).trans ?_
     rotate_left
     ·simp only[Za];obtain⟨K,m,hmin,hbest,hsz⟩:=Qnf hc (by omega) hb;have hlb:(Qdg x).length<=300:=by rw[hbest,Qk1 (by omega) hmin.bad.lt];omega
      have hin:∀i∈whyJ x,i<nLim x+(Qao x).length:=λi hi=>by rw[QrK,hbest] at hi;exact w_lt hc hi
      have e0:QdT (ints (foldl (goK x) [] (QdJ x.Xa.length)))=some (ints (whyJ x)):=by
       unfold QdT;rw[QjG];have:(ints (Qdg x)).length<4611686018427387904:=by rw[QbX];omega
       exact Zc this
      rw[e0];simp only[Za];rw[Qq3 (ints (whyJ x)) (λi=>Qbq x i.toNat) (λk hk acc ha=>?_) (λacc=>by rw[Zd (by simp)])]
      ·simp only[Za];congr 2;unfold ints;rw[Yv];rfl
      ·rw[QbX] at hk;have e1:(ints (whyJ x))[k]'(by rw[QbX];exact hk)=(((whyJ x)[k]:Nat):Int):=by simp[ints]
       have h3:=hin _ (Zk hk);have hwl:=Qng (x:=x);dsimp only;rw[QbX,Zc (by simpa using hk),QI (by rw[QbX];exact hk),e1];simp only[Za];rw[QI (by rw[Qhg];exact h3)];simp only[Za];rw[QaT (by simp;omega),Qw hk (by omega),Zq];simp only[Za];congr 4;unfold Qbq;rw[Zf,Zb (by rw[Qhg];exact h3)];rfl
     ·rw[QyI hc hK (names:=QaK x) (Qhg x)];simp only[Za];rw[Qs0 (n:=(Qbp x).Xo.length) (by rw[hlen];omega)];rcases QwP hc (by omega) hK (names:=QaK x) (Qhg x) hs with h | h
      ·exact (Ya (λr=>(Option.bind r _).bind _) h).trans rfl
      ·exact (Ya (λr=>(Option.bind r _).bind _) h).trans rfl
def Qth {α:Type} (l:List α) (d:α):sel l (λ_=>true) d=l:=by unfold sel;have e:(range l.length).filter (λ_=>true)=range l.length:=filter_eq_self.2 λ_ _=>rfl;rw[e];refine ext_getElem (by simp) λi h1 h2=>?_;simp[Zf,h2]
def Qti {m k:Nat} (hk:k<=64):((Int.tmod (ishr .i64 (m:Int) (u64.wrap (k:Int))) (2:Int))==(1:Int))=m.testBit k:=by
 rw[u64w (by omega) (by omega)];have e:ishr .i64 (m:Int) (k:Int)=((m>>>k:Nat):Int):=by
  unfold ishr;rw[Zq,show i64.bits=64 from rfl,Nat.min_eq_left hk,Int.fdiv_eq_ediv_of_nonneg _ (by exact_mod_cast Nat.zero_le (2 ^ k)),Nat.shiftRight_eq_div_pow]
  norm_cast
 rw[e,Int.tmod_eq_emod_of_nonneg (Int.natCast_nonneg _),ZO];unfold Nat.testBit;rw[Nat.and_comm 1];have h2:m>>>k&&& 1=m>>>k % 2:=Nat.and_one_is_mod _;rw[h2];simp only[ZW,bne_iff_ne,ne_eq];omega
def Qop {n:Nat} (hn:n<=16):ishl .i64 (1:Int) (u64.wrap (n:Int))=((2 ^ n:Nat):Int):=by
 have hp:2 ^ n<=2 ^ 16:=Nat.pow_le_pow_right (by omega) hn;have e:(2:Int) ^ n=((2 ^ n:Nat):Int):=by push_cast;rfl
 rw[u64w (by omega) (by omega)];unfold ishl;rw[Zq,show i64.bits=64 from rfl,Nat.min_eq_left (by omega),Int.one_mul,e];exact w64 (Int.le_trans (by decide) (Int.natCast_nonneg _)) (by omega)
def nnw {n:Nat} (hn:n<=1000):nn (u64.wrap (n:Int))=some ():=by rw[u64w (by omega) (by omega)];unfold nn;rw[Zc (by omega)]
def fewF (x:Qb) (K:Nat) (n m:Nat):Nat:=if ones m<n/\QbN x m K=false then ones m else n
def QhB (x:Qb):List Qv:=limL Qv.mk x
def Qim (x:Qb):(QhB x).map toC=Qew x:=by
 unfold QhB Qew;rw[<-QoS,Yv];have:(toC ∘ Qmq)=id:=by funext y;rfl
 rw[this,map_id]
def Qex (x:Qb):(QhB x).length=nLim x:=by unfold nLim;rw[<-Qim,Zv]
def QCb {α β:Type} (l:List α) (g:α->β) (p:Nat->Bool) (d:α) (e:β):(sel l p d).map g=sel (l.map g) p e:=by unfold sel;rw[Yv,Zv];refine map_congr_left λi hi=>?_;have hi:=ZD.1 (Yj.1 hi).1;simp only[Function.comp];rw[Zf,Zb hi,Zf,Ym,Zb hi];rfl
def few_is {x:Qb} (hs:Qb4 x) (hc:QZ x=[]) (h16:nLim x<=16) {K:Nat} {e:List Bool} (he:∀k:Nat,k<x.Xa.length->idx e (k:Int)=some (K.testBit k)) {many:Nat} (hm:many<=1000):
  QfH x (QhB x) e (many:Int)=some (((range (2 ^ nLim x)).foldl (fewF x K) many:Nat):Int):=by
 have hst:=Qh3 hc;have hL:∀y∈QhB x,VL (toC y) x.Xa.length:=λy hy=>by
  have:toC y∈Qew x:=by rw[<-Qim];exact ZZ hy
  exact hst.lim _ this
 have hp:2 ^ nLim x<=2 ^ 16:=Nat.pow_le_pow_right (by omega) h16;have hst1:∀q m,fewF x K q m<=q:=λq m=>by unfold fewF;split<;>omega
 have hle:∀n,(range n).foldl (fewF x K) many<=many:=by
  intro n
  induction n with
  | zero=>exact Zx _
  | succ n ih=>rw[ZX,foldl_append];simp only[foldl_cons,foldl_nil];exact Yt (hst1 _ _) ih
 unfold QfH;rw[Qex];refine Qb8 (2 ^ nLim x) (λn=>((n:Int),(((range n).foldl (fewF x K) many:Nat):Int))) (((range (2 ^ nLim x)).foldl (fewF x K) many:Nat):Int) rfl (λm hm2=>?_) ?_ rfl
 ·dsimp only;rw[nnw (by omega)];simp only[Za];rw[Qop h16,Zc (decide_eq_true (ZQ.2 hm2))];rw[Qtf (QhB x) ⟨0,0,0,false⟩ (λi=>m.testBit i) (λk hk acc ha=>?_) (λacc=>by rw[Qex,Zd (by simp)])]
  ·simp only[Za];have hsl:(sel (QhB x) (λi=>m.testBit i) ⟨0,0,0,false⟩).length=ones m:=by
    rw[<-QeD _ _ h16 hm2];unfold sel setL;rw[Zv,Qex]
   have hposs:Qbs x (sel (QhB x) (λi=>m.testBit i) ⟨0,0,0,false⟩) e=some (QbN x m K):=by rw[Qjj hs hc (λy hy=>by obtain⟨i,hi,_⟩:=Qmv.1 hy;exact hL y (Zr hi)) (by unfold sel;rw[Zv];have:=length_filter_le (λi=>m.testBit i) (range (QhB x).length);rw[ZL,Qex] at this;rw[Qex];omega) (E:=λk=>K.testBit k.toNat) (λk hk=>by rw[he k hk,Zq])];rw[QCb _ _ _ _ zL,Qim];rfl
   have hl:=hle m;rw[hsl,ZX,foldl_append];simp only[foldl_cons,foldl_nil];rw[Qw hm2 (by omega)];generalize (range m).foldl (fewF x K) many=q at hl ⊢;unfold fewF;by_cases hlt:ones m<q
   ·have h1:decide (((ones m:Nat):Int)<((q:Nat):Int))=true:=decide_eq_true (by omega);rw[h1];simp only[opt,beq_self_eq_true,if_true,Bool.true_and];rw[hposs];simp only[Za]
    cases QbN x m K with
    | true=>simp
    | false=>simp[hlt]
   ·have h1:decide (((ones m:Nat):Int)<((q:Nat):Int))=false:=decide_eq_false (by omega);rw[h1,Zd (λh=>hlt h.1)];simp[opt]
  ·rw[Qex] at hk;dsimp only;rw[Zc (by simpa using hk),nnw (by omega)];simp only[Za];rw[Qti (by omega),Qw hk (by omega)]
   cases m.testBit k with
   | false=>rfl
   | true=>rw[Zc rfl,Zc rfl,QI (by rw[Qex];exact hk)];simp only[Za];rw[QaT (by simp;omega)];rfl
 ·dsimp only;rw[nnw (by omega)];simp only[Za];rw[Qop h16,Zd (by simp)]
def FewI (x:Qb) (K many:Nat) (P:List Nat) (q:Nat):Prop:=(q=many/\∀m∈P,QbN x m K=false->many<=ones m)\/(∃m∈P,QbN x m K=false/\q=ones m/\ones m<many/\∀m'∈P,QbN x m' K=false->ones m<=ones m')
def QyK {x:Qb} {K many:Nat} {P:List Nat} {q:Nat} (ih:FewI x K many P q) (m:Nat):FewI x K many (P++[m]) (fewF x K q m):=by
 rcases ih with⟨h1,h2⟩ | ⟨m1,hm1,h1,h2,h3,h4⟩
 ·subst h1;unfold fewF;by_cases h:ones m<q/\QbN x m K=false
  ·rw[Zc h];refine .inr ⟨m,by simp,h.2,rfl,h.1,λm' hm' hb=>?_⟩;rcases Zt.1 hm' with hm' | hm'
   ·have:=h2 m' hm' hb;omega
   ·rw[Zh.1 hm'];exact Zx _
  ·rw[Zd h];refine .inl ⟨rfl,λm' hm' hb=>?_⟩;rcases Zt.1 hm' with hm' | hm'
   ·exact h2 m' hm' hb
   ·rw[Zh.1 hm'] at hb ⊢;exact Nat.not_lt.1 λhlt=>h ⟨hlt,hb⟩
 ·subst h2;unfold fewF;by_cases h:ones m<ones m1/\QbN x m K=false
  ·rw[Zc h];refine .inr ⟨m,by simp,h.2,rfl,by omega,λm' hm' hb=>?_⟩;rcases Zt.1 hm' with hm' | hm'
   ·have:=h4 m' hm' hb;omega
   ·rw[Zh.1 hm'];exact Zx _
  ·rw[Zd h];refine .inr ⟨m1,by simp[hm1],h1,rfl,h3,λm' hm' hb=>?_⟩;rcases Zt.1 hm' with hm' | hm'
   ·exact h4 m' hm' hb
   ·rw[Zh.1 hm'] at hb ⊢;exact Nat.not_lt.1 λhlt=>h ⟨hlt,hb⟩
def QrM {x:Qb} {K many:Nat}:∀(l P:List Nat) (q:Nat),FewI x K many P q->FewI x K many (P++l) (l.foldl (fewF x K) q)
 | [],P,q,h=>by rw[Yh];exact h
 | m::l,P,q,h=>by have:=QrM l (P++[m]) (fewF x K q m) (QyK h m);rw[ZA] at this;exact this
def QrN {x:Qb} (K many:Nat) (l:List Nat):
  (l.foldl (fewF x K) many=many/\∀m∈l,QbN x m K=false->many<=ones m)\/(∃m∈l,QbN x m K=false/\l.foldl (fewF x K) many=ones m/\ones m<many/\∀m'∈l,QbN x m' K=false->ones m<=ones m'):=by
 have:=QrM (x:=x) (K:=K) (many:=many) l [] many (.inl ⟨rfl,λm hm=>by cases hm⟩);rw[Ye] at this;exact this
def Qmy (x:Qb) (K:Nat):Bool:=(range x.Xa.length).all λk=>!K.testBit k||!(cyc x k).isEmpty
def sizF (x:Qb) (best K:Nat):Nat:=if Qmy x K=true/\(recS x K).length<best then (recS x K).length+(range (2 ^ nLim x)).foldl (fewF x K) (best - (recS x K).length) else best
def QpK {x:Qb} {K:Nat} (hK:K<2 ^ x.Xa.length):Qmy x K=true↔QiK x K:=by
 unfold Qmy;rw[ZH];constructor
 ·intro h;refine⟨hK,λk hk hb he=>?_⟩;have:=h k (ZD.2 hk);rw[hb,he] at this;cases this
 ·intro h k hk;have hk:=ZD.1 hk
  cases hb:K.testBit k with
  | false=>rfl
  | true=>
   have:=h.2 k hk hb
   cases hc:cyc x k with
   | nil=>exact absurd hc this
   | cons a l=>rfl
structure Qoq (x:Qb) (P:List Nat) (b:Nat):Prop where
 le:b<=nAll x+1
 min:∀K∈P,∀m,BadM x K m->b<=Qbh x K m
 some:b<=nAll x->∃K m,BadM x K m/\Qbh x K m=b
def QwQ {x:Qb} (h16:nLim x<=16) {P:List Nat} {b:Nat} (h:Qoq x P b) {K:Nat} (hK:K<2 ^ x.Xa.length):Qoq x (P++[K]) (sizF x b K):=by
 unfold sizF;by_cases hg:Qmy x K=true
 ·have hgood:=(QpK hK).1 hg;by_cases hlt:(recS x K).length<b
  ·rw[Zc ⟨hg,hlt⟩];have hm2:∀m,m∈range (2 ^ nLim x)↔m<2 ^ nLim x:=λm=>ZD;have hle:=h.le;rcases QrN (x:=x) K (b - (recS x K).length) (range (2 ^ nLim x)) with⟨h1,h2⟩ | ⟨m,hm,h1,h2,h3,h4⟩
   ·rw[h1];have e:(recS x K).length+(b - (recS x K).length)=b:=by omega
    rw[e];refine⟨h.le,λK' hK' m' hb=>?_,h.some⟩;rcases Zt.1 hK' with hK' | hK'
    ·exact h.min K' hK' m' hb
    ·obtain rfl:=Zh.1 hK';have:=h2 m' ((hm2 m').2 hb.lt) hb.bad;unfold Qbh;omega
   ·rw[h2];refine⟨by omega,λK' hK' m' hb=>?_,λ_=>⟨K,m,⟨hgood,(hm2 m).1 hm,h1⟩,by unfold Qbh;omega⟩⟩;rcases Zt.1 hK' with hK' | hK'
    ·have:=h.min K' hK' m' hb;omega
    ·obtain rfl:=Zh.1 hK';have:=h4 m' ((hm2 m').2 hb.lt) hb.bad;unfold Qbh;omega
  ·rw[Zd (λh=>hlt h.2)];refine⟨h.le,λK' hK' m' hb=>?_,h.some⟩;rcases Zt.1 hK' with hK' | hK'
   ·exact h.min K' hK' m' hb
   ·obtain rfl:=Zh.1 hK';unfold Qbh;omega
 ·rw[Zd (λh=>hg h.1)];refine⟨h.le,λK' hK' m' hb=>?_,h.some⟩;rcases Zt.1 hK' with hK' | hK'
  ·exact h.min K' hK' m' hb
  ·obtain rfl:=Zh.1 hK';exact absurd ((QpK hK).2 hb.good) hg
def Ql1 {x:Qb} (h16:nLim x<=16):∀(l P:List Nat) (b:Nat),(∀K∈l,K<2 ^ x.Xa.length)->Qoq x P b->Qoq x (P++l) (l.foldl (sizF x) b)
 | [],P,b,_,h=>by rw[Yh];exact h
 | K::l,P,b,hl,h=>by have:=Ql1 h16 l (P++[K]) (sizF x b K) (λK hK=>hl K (Zs _ hK)) (QwQ h16 h (hl K (Zn ..)));rw[ZA] at this;exact this
def Qup (x:Qb):Nat:=(range (2 ^ x.Xa.length)).foldl (sizF x) (nAll x+1)
def QyL {x:Qb} (hc:QZ x=[]) (h16:nLim x<=16) (hb:Qdu x=false):Qup x=(Qdg x).length:=by
 have hB:Qoq x (range (2 ^ x.Xa.length)) (Qup x):=by
  have:=Ql1 (x:=x) h16 (range (2 ^ x.Xa.length)) [] (nAll x+1) (λK hK=>ZD.1 hK) ⟨Zx _,λK hK=>(by cases hK),λh=>by omega⟩
  rwa [Ye] at this
 obtain⟨K,m,hmin,hbest,hsz⟩:=Qnf hc h16 hb;rw[hbest,Qk1 h16 hmin.bad.lt];have h1:=hB.min K (ZD.2 hmin.bad.good.1) m hmin.bad;obtain⟨K',m',hb',h2⟩:=hB.some (by omega);have:=hmin.min K' m' hb';omega
def Qtj {x:Qb} (K:Nat):∀n,(((range n).flatMap λk=>if K.testBit k=true then cyc x k else []).length:Int)=((range n).map λ(k:Nat)=>if K.testBit k=true then ((cyc x k).length:Int) else 0).sum:=by
 intro n
 induction n with
 | zero=>rfl
 | succ n ih=>rw[ZX,ZF,ZT,sum_append,Ze,Int.natCast_add,ih,Yr];simp only[Yf,Yu,sum_cons,sum_nil];cases K.testBit n<;>simp
def QjH (x:Qb):Int×Int:=match QZ x with
 | p::_=>(0,p.Code)
 | []=>if nLim x>16 then (0,4) else if Qdu x=true then (0,6) else (((Qdg x).length:Int),0)
def QCc {x:Qb} (hs:Qb4 x):QgU x=some (QjH x):=by
 unfold QgU QjH;rw[QmL hs]
 cases hc:QZ x with
 | cons p l=>have:=Qgt (x:=x) (p:=p) (by rw[hc];exact Zn ..);dsimp only[Option.bind_some];rw[Zc (by simpa using this)]
 | nil=>
  have hv:=Qan hc;have hk6:=hv.kinds;have h300:=QhR hc;have hst:=Qh3 hc;dsimp only[Option.bind_some];rw[Zd (by simp),QiF hs];unfold limR;rw[hc];dsimp only[Option.bind_some];have hlen:(limL Qv.mk x).length=nLim x:=Qex x;by_cases h16:nLim x>16
  ·rw[Zc (decide_eq_true (by rw[hlen];omega)),Zc h16]
  ·rw[Zd (by rw[hlen];simp;omega),Zd h16,QlQ hs hc];simp only[Za];rw[Qht _ _ (by omega)];simp only[Za];have h12:∀k,k<x.Xa.length->(cyc x k).length<=12:=λk hk=>by unfold cyc;rw[Qkc];exact (QlW hc (by omega) (by omega) _).1
   refine Qb8 (ρ:=List Int×List Bool) x.Xa.length (λn=>((n:Int),(range n).map (λ(k:Nat)=>((cyc x k).length:Int)),((range n).map λ(k:Nat)=>!(cyc x k).isEmpty)++replicate (x.Xa.length - n) false)) ((range x.Xa.length).map (λ(k:Nat)=>((cyc x k).length:Int)),(range x.Xa.length).map λ(k:Nat)=>!(cyc x k).isEmpty) (by simp) (λn hn'=>?_) ?_ ?_
   ·have hln:(((range n).map λ(k:Nat)=>!(cyc x k).isEmpty)++replicate (x.Xa.length - n) false).length=x.Xa.length:=by simp;omega
    have hcy:Qd8 x (n:Int) ((Qao x).map mkN)=some ((cyc x n).length:Int):=by have:=QpG hn' (p:=λ_=>true) (x:=x) (by unfold nAll at h300;omega);rw[Qth] at this;exact this
    dsimp only;rw[Zc (by simpa using hn'),hcy];simp only[Za];rw[QaT (by simp;omega)];simp only[Za];have hg:idx ((range n).map (λ(k:Nat)=>((cyc x k).length:Int))++[((cyc x n).length:Int)]) (n:Int)=some ((cyc x n).length:Int):=by rw[Qc6,ZP (by simp)];simp
    rw[hg];simp only[Za];rw[QeC (by rw[hln];exact hn')];simp only[Za];rw[Qw hn' (by omega),set_append_right _ _ (by simp)];have e2:x.Xa.length - n=(x.Xa.length - (n+1))+1:=by omega
    have e3:decide (((cyc x n).length:Int)>0)=!(cyc x n).isEmpty:=by
     cases cyc x n with
     | nil=>rfl
     | cons a l=>simp
    rw[e2,replicate_succ,Zv,ZL,Nat.sub_self,set_cons_zero,e3,ZX,ZT,ZT,ZA];rfl
   ·dsimp only;rw[Zd (by simp),Nat.sub_self,replicate_zero,Yh]
   ·have hbase:Qbs x (limL Qv.mk x) ((range x.Xa.length).map λ(k:Nat)=>!(cyc x k).isEmpty)=some (Qdu x):=by
     have hL:∀y∈QhB x,VL (toC y) x.Xa.length:=λy hy=>by
      have:toC y∈Qew x:=by rw[<-Qim];exact ZZ hy
      exact hst.lim _ this
     have:=Qjj hs hc hL (by rw[Qex];omega) (e:=(range x.Xa.length).map λ(k:Nat)=>!(cyc x k).isEmpty) (E:=λk=>!(cycN x k λ_=>true).isEmpty) (λk hk=>by rw[QI (by simpa using hk)];simp[cyc]);rw[Qim] at this;have e:Qdu x=QhA (λk=>!(cycN x k λ_=>true).isEmpty) x.Xa.length (Qew x) (refP (QeL x)):=by unfold Qdu;rw[Qth]
     rw[e];exact this
    dsimp only;rw[hbase];simp only[Za]
    cases hb:Qdu x with
    | true=>rw[Zc rfl,Zc rfl]
    | false=>
     have hf:¬(false=true):=by decide
     have hp:2 ^ x.Xa.length<=2 ^ 6:=Nat.pow_le_pow_right (by omega) hk6;rw[Zd hf,Zd hf,<-QyL hc (by omega) hb];have hnl:(limL Qv.mk x).length+((Qao x).map mkN).length=nAll x:=by rw[hlen,Zv];rfl
     have h0:i64.wrap (i64.wrap (((limL Qv.mk x).length:Int)+(((Qao x).map mkN).length:Int))+1)=((nAll x+1:Nat):Int):=by rw[w64 (n:=((limL Qv.mk x).length:Int)+(((Qao x).map mkN).length:Int)) (by omega) (by omega),w64 (by omega) (by omega)];omega
     rw[h0];have hbd:∀n,n<=2 ^ x.Xa.length->(range n).foldl (sizF x) (nAll x+1)<=nAll x+1:=λn hn=>by have:=Ql1 (x:=x) (by omega) (range n) [] (nAll x+1) (λK hK=>by have:=ZD.1 hK;omega) ⟨Zx _,λK hK=>(by cases hK),λh=>by omega⟩;exact this.le
     refine Qb8 (2 ^ x.Xa.length) (λn=>((n:Int),(((range n).foldl (sizF x) (nAll x+1):Nat):Int))) ((Qup x:Nat):Int) rfl (λK hK=>?_) ?_ rfl
     ·have hb1:=hbd K (by omega);dsimp only;rw[nnw (by omega)];simp only[Za];rw[Qop (by omega),Zc (decide_eq_true (ZQ.2 hK))];refine Qb8 (ρ:=Bool×Int×List Bool) x.Xa.length (λn=>((n:Int),((range n).all λk=>!K.testBit k||!(cyc x k).isEmpty),((range n).map λ(k:Nat)=>if K.testBit k=true then ((cyc x k).length:Int) else 0).sum,((range n).map λk=>K.testBit k)++replicate (x.Xa.length - n) false)) (Qmy x K,((recS x K).length:Int),(range x.Xa.length).map λk=>K.testBit k) (by simp) (λn hn'=>?_) ?_ ?_
      ·have hln:(((range n).map λk=>K.testBit k)++replicate (x.Xa.length - n) false).length=x.Xa.length:=by simp;omega
       have e2:x.Xa.length - n=(x.Xa.length - (n+1))+1:=by omega
       have hsum:=Qtj (x:=x) K n;have hsl:(((range n).flatMap λk=>if K.testBit k=true then cyc x k else [])).length<=n * 12:=Qa7 n _ 12 λk hk=>by
        split
        ·exact h12 k (by omega)
        ·simp
       dsimp only;rw[Zc (by simpa using hn'),nnw (by omega)];simp only[Za];rw[Qti (by omega),Qw hn' (by omega),ZX,all_append,ZT,ZT,sum_append]
       cases hbit:K.testBit n with
       | false=>simp only[ZB,if_false,Za,all_cons,all_nil,Yf,Yu,hbit,sum_cons,sum_nil];rw[e2,replicate_succ,ZA];simp
       | true=>
        rw[Zc rfl,QeC (by rw[hln];exact hn')];simp only[Za];rw[set_append_right _ _ (by simp),e2,replicate_succ,Zv,ZL,Nat.sub_self,set_cons_zero];rw[QI (by simpa using hn')];simp only[Za,getElem_map,getElem_range];have h12n:=h12 n hn';rw[w64 (by omega) (by omega)];simp only[all_cons,all_nil,Yf,Yu,hbit,sum_cons,sum_nil,Bool.not_true,Bool.false_or,Bool.and_true,if_true]
        cases hall:(range n).all λk=>!K.testBit k||!(cyc x k).isEmpty with
        | false=>simp[opt]
        | true=>simp only[opt,beq_self_eq_true,if_true];rw[QI (by simpa using hn')];simp
      ·dsimp only;rw[Zd (by simp),Nat.sub_self,replicate_zero,Yh];congr 2;rw[<-Qtj];rfl
      ·dsimp only;rw[ZX,foldl_append];simp only[foldl_cons,foldl_nil];rw[Qw hK (by omega)];generalize (range K).foldl (sizF x) (nAll x+1)=b at hb1 ⊢;unfold sizF
       cases hg:Qmy x K with
       | false=>simp
       | true=>
        rw[Bool.true_and];by_cases hlt:(recS x K).length<b
        ·have hrl:=Qtg hc K;unfold nAll at h300 hb1;have hfl:(range (2 ^ nLim x)).foldl (fewF x K) (b - (recS x K).length)<=b:=by
          rcases QrN (x:=x) K (b - (recS x K).length) (range (2 ^ nLim x)) with⟨h1,_⟩ | ⟨m,_,_,h1,h2,_⟩
          ·omega
          ·omega
         rw[Zc (decide_eq_true (by omega)),Zc ⟨rfl,hlt⟩,w64 (n:=((b:Nat):Int) - ((recS x K).length:Int)) (by omega) (by omega),show ((b:Nat):Int) - ((recS x K).length:Int)=((b - (recS x K).length:Nat):Int) by omega];rw[show limL Qv.mk x=QhB x from rfl,few_is hs hc (by omega) (K:=K) (λk hk=>by rw[QI (by simpa using hk)];simp) (by omega)];simp only[Za];rw[w64 (by omega) (by omega)];simp
        ·rw[Zd (by simp;omega),Zd (λh=>hlt h.2)];rfl
     ·dsimp only;rw[nnw (by omega)];simp only[Za];rw[Qop (by omega),Zd (by simp)];rfl
structure FR (B:Int) (f g:Qd):Prop where
 name:g.Xj=f.Xj
 of:g.Of=f.Of
 up:g.Up=f.Up
 kind:g.Xi=f.Xi
 words:g.Words=f.Words
 weights:g.Xf=f.Xf
 ref:f.Xi=1->0<=g.Lo/\g.Lo<=g.Hi/\g.Hi<=B
 num:f.Xi=2\/f.Xi=4->-1048576<=g.Lo/\g.Lo<=g.Hi/\g.Hi<=1048576
 same:f.Xi≠1->f.Xi≠2->f.Xi≠4->g=f
def FsR (B:Int) (a b:List Qd):Prop:=b.length=a.length/\∀(j:Nat) (f:Qd),a[j]?=some f->∃g,b[j]?=some g/\FR B f g
structure KR (B:Int) (k q:Qi):Prop where
 name:q.Xj=k.Xj
 span:0<=q.Lo/\q.Lo<=q.Hi/\q.Hi<=B
 fields:FsR B k.Xb q.Xb
def KsR (B:Int) (a b:List Qi):Prop:=b.length=a.length/\∀(j:Nat) (k:Qi),a[j]?=some k->∃q,b[j]?=some q/\KR B k q
def rkey (r:Qp):Str×Str×Str×Str:=(r.Xj,r.Xi,r.A,r.B)
structure NumR (B:Int) (x y:Qb):Prop where
 version:y.Version=x.Version
 lives:y.Xd=x.Xd
 kinds:KsR B x.Xa y.Xa
 rules:(y.Xc.map rkey).Sublist (x.Xc.map rkey)
 ns:∀r∈y.Xc,-1048576<=r.N/\r.N<=1048576
def KsR.back {B:Int} {a b:List Qi} (h:KsR B a b) {q:Qi} (hq:q∈b):∃k∈a,KR B k q:=by
 obtain⟨j,hj,rfl⟩:=ZY hq;have hja:j<a.length:=by rw[<-h.1];exact hj
 obtain⟨q,hq,hr⟩:=h.2 j a[j] (Zb hja);rw[Zb hj] at hq;obtain rfl:=Zu hq;exact⟨_,Zk hja,hr⟩
def FsR.back {B:Int} {a b:List Qd} (h:FsR B a b) {q:Qd} (hq:q∈b):∃k∈a,FR B k q:=by
 obtain⟨j,hj,rfl⟩:=ZY hq;have hja:j<a.length:=by rw[<-h.1];exact hj
 obtain⟨q,hq,hr⟩:=h.2 j a[j] (Zb hja);rw[Zb hj] at hq;obtain rfl:=Zu hq;exact⟨_,Zk hja,hr⟩
def NumR.short {B:Int} {x y:Qb} (h:NumR B x y) (hs:Qb4 x):Qb4 y:=by
 obtain⟨⟨f1,f2⟩,⟨⟨n1,n2⟩,n3,n4⟩,hl,hr⟩:=hs;have hrl:y.Xc.length<=x.Xc.length:=by have:=h.rules.length_le;simpa using this
 refine⟨⟨by rw[h.kinds.1];exact f1,λq hq=>?_⟩,⟨⟨by rw[h.kinds.1];exact n1,λq hq=>?_⟩,by rw[h.lives];exact n3,by omega⟩,by rw[h.lives];exact hl,by omega⟩
 ·obtain⟨k,hk,hkr⟩:=h.kinds.back hq;rw[hkr.fields.1];exact f2 k hk
 ·obtain⟨k,hk,hkr⟩:=h.kinds.back hq;refine⟨by rw[hkr.fields.1];exact (n2 k hk).1,λg hg=>?_⟩;obtain⟨f,hf,hfr⟩:=hkr.fields.back hg;rw[hfr.words,hfr.weights];exact (n2 k hk).2 f hf
def Part {α:Type} (R:α->α->Prop) (a b:List α) (i:Nat):Prop:=b.length=a.length/\(∀(j:Nat) (f:α),a[j]?=some f->j<i->∃g,b[j]?=some g/\R f g)/\∀j:Nat,i<=j->b[j]?=a[j]?
def Part.zero {α:Type} (R:α->α->Prop) (a:List α):Part R a a 0:=⟨rfl,λj f _ h=>by omega,λ_ _=>rfl⟩
def Part.step {α:Type} {R:α->α->Prop} {a b:List α} {i:Nat} (h:Part R a b i) {f g:α} (hf:a[i]?=some f) (hr:R f g):Part R a (b.set i g) (i+1):=by
 have hi:i<b.length:=by rw[h.1];exact (Zg.1 hf).1
 refine⟨by simpa using h.1,λj f' hf' hj=>?_,λj hj=>?_⟩
 ·rw[getElem?_set];by_cases e:i=j
  ·subst e;rw[hf] at hf';obtain rfl:=Zu hf';exact⟨g,by rw[Zc rfl,Zc hi],hr⟩
  ·rw[Zd e];exact h.2.1 j f' hf' (by omega)
 ·rw[getElem?_set,Zd (by omega)];exact h.2.2 j (by omega)
def Part.full {α:Type} {R:α->α->Prop} {a b:List α} {i:Nat} (h:Part R a b i) (hi:a.length<=i):b.length=a.length/\∀(j:Nat) (f:α),a[j]?=some f->∃g,b[j]?=some g/\R f g:=⟨h.1,λj f hf=>h.2.1 j f hf (by have:=(Zg.1 hf).1;omega)⟩
def Part.at {α:Type} {R:α->α->Prop} {a b:List α} {i:Nat} (h:Part R a b i) (hi:i<b.length):∃f,a[i]?=some f/\b[i]?=some f:=by
 have hia:i<a.length:=by rw[<-h.1];exact hi
 exact⟨a[i],Zb hia,by rw[h.2.2 i (Zx _),Zb hia]⟩
def RR (r s:Qp):Prop:=rkey s=rkey r/\-1048576<=s.N/\s.N<=1048576
def QyM {x:Qb} {l:List Int} (hs:Qb4 x) (hv:∀k∈x.Xa,k.Xb.length<=1000) (hl:∀z∈l,I64 z):Ok (Qf4 x l) (NumR 8 x):=by
 have hkl:=hs.few.1;have hrl:=hs.rules;unfold Qf4;simp only[Ye,Zl,Nat.zero_add];refine Ok.rm (by omega) ?_;refine Ok.bind (P:=λp:Int×List Qi=>KsR 8 x.Xa p.2) (Ok.loop (λm s=>∃i:Nat,s.1=(i:Int)/\i+m=x.Xa.length/\Part (KR 8) x.Xa s.2.2 i) x.Xa.length ⟨0,rfl,by omega,Part.zero _ _⟩ λm s ⟨i,hi,him,hP⟩=>?_) (λp hp=>?_)
 ·obtain⟨s1,at',L⟩:=s;dsimp only at hi hP ⊢;subst hi;refine Ok.ite (λh=>?_) (λh=>?_)
  ·have hiL:i<L.length:=by simpa using h
   obtain⟨k,hk1,hk2⟩:=hP.at hiL;have hkf:k.Xb.length<=1000:=hv k (Zr hk1);refine Ok.at1 hl (by decide) λt28 a0 a1=>?_;refine Ok.idx a0 a1 λt29 ht29 _=>?_;have h29:0<=t29/\t29<=6:=by simp only[Zp,ZN,Yd] at ht29;omega
   rw[Qc6,hk2];simp only[Za];rw[QeC hiL];simp only[Za];refine Ok.at1 hl (by decide) λt44 b0 b1=>?_;rw[Qc6,getElem?_set,Zc rfl,Zc hiL];simp only[Za];rw[QeC (by simpa using hiL)];simp only[Za];rw[Qc6,hk1];simp only[Za];refine Ok.rm (by omega) ?_;rw[Qc6,getElem?_set,Zc rfl,Zc (by simpa using hiL)];simp only[Za];rw[w64 (n:=t29+t44) (by omega) (by omega)];refine Ok.bind (P:=λp:Int×List Qd=>FsR 8 k.Xb p.2) (Ok.loop (λm s=>∃j:Nat,s.1=(j:Int)/\j+m=k.Xb.length/\Part (FR 8) k.Xb s.2.2 j) k.Xb.length ⟨0,rfl,by omega,Part.zero _ _⟩ λm s ⟨j,hj,hjm,hQ⟩=>?_) (λp hp=>?_)
   ·obtain⟨s1,at2,F⟩:=s;dsimp only at hj hQ ⊢;subst hj;refine Ok.ite (λh=>?_) (λh=>?_)
    ·have hjF:j<F.length:=by simpa using h
     obtain⟨f,hf1,hf2⟩:=hQ.at hjF;rw[Qc6,hf2];simp only[Za];have hstep:∀g,FR 8 f g->Ok ((setAt F (j:Int) g).bind λt126s=>(some (Sum.inl ((i64.wrap ((j:Int)+(1:Int))),(i64.wrap (at2+(2:Int))),t126s)):Option ((Int×Int×List Qd)⊕(Int×List Qd)))) (λo=>∃s',o=.inl s'/\∃k',k'<m/\∃j:Nat,s'.1=(j:Int)/\j+k'=k.Xb.length/\Part (FR 8) k.Xb s'.2.2 j):=λg hg=>by rw[QeC hjF];exact Ok.mk ⟨_,rfl,m - 1,by have:=hQ.1;omega,j+1,Qw (n:=k.Xb.length) (by have:=hQ.1;omega) (by omega),by have:=hQ.1;omega,hQ.step hf1 hg⟩
     by_cases h1:f.Xi=1
     ·rw[Zc (by simpa using h1)];refine Ok.bind (P:=λg:Qd=>FR 8 f g) ?_ (λg hg=>?_)
      ·refine Ok.at1 hl (by decide) λa a0 a1=>Ok.at1 hl (by decide) λb b0 b1=>Ok.mk ?_;rw[w64 (n:=a+b) (by omega) (by omega)];exact⟨rfl,rfl,rfl,rfl,rfl,rfl,λ_=>⟨by dsimp only;omega,by dsimp only;omega,by dsimp only;omega⟩,λh=>by omega,λh=>absurd h1 h⟩
      ·have hgk:g.Xi=1:=hg.kind.trans h1;rw[Zd (by rw[hgk];decide)];simp only[Za];exact (hstep g hg).Xp λo ⟨s',e,ho⟩=>by subst e;exact ho
     ·rw[Zd (by simpa using h1)];simp only[Za];by_cases h24:f.Xi=2\/f.Xi=4
      ·rw[Zc (by simpa using h24)];refine Ok.bind (P:=λg:Qd=>FR 8 f g) ?_ (λg hg=>(hstep g hg).Xp λo ⟨s',e,ho⟩=>by subst e;exact ho);refine Ok.at1 hl (by decide) λa a0 a1=>Ok.at1 hl (by decide) λb b0 b1=>Ok.mk ?_;rw[w64 (n:=a+b) (by omega) (by omega)];exact⟨rfl,rfl,rfl,rfl,rfl,rfl,λh=>absurd h h1,λ_=>⟨by dsimp only;omega,by dsimp only;omega,by dsimp only;omega⟩,λ_ h2 h4=>(h24.elim h2 h4).elim⟩
      ·rw[Zd (by simpa using h24)];simp only[Za];exact (hstep f ⟨rfl,rfl,rfl,rfl,rfl,rfl,λh=>absurd h h1,λh=>absurd h h24,λ_ _ _=>rfl⟩).Xp λo ⟨s',e,ho⟩=>by subst e;exact ho
    ·have hjF:¬j<F.length:=by simpa using h
     exact Ok.mk (hQ.full (by have:=hQ.1;omega))
   ·refine Ok.mk ⟨m - 1,by have:=hP.1;omega,i+1,Qw (n:=x.Xa.length) (by have:=hP.1;omega) (by omega),by have:=hP.1;omega,?_⟩;dsimp only;rw[Zq,List.set_set,List.set_set];exact hP.step hk1 ⟨rfl,⟨by dsimp only;omega,by dsimp only;omega,by dsimp only;omega⟩,hp⟩
  ·have hiL:¬i<L.length:=by simpa using h
   exact Ok.mk (hP.full (by have:=hP.1;omega))
 ·refine Ok.rm (by omega) ?_;refine Ok.bind (P:=λp:List Qp=>∃i:Nat,x.Xc.length<=i/\Part RR x.Xc p i) (Ok.loop (λm s=>∃i:Nat,s.1=(i:Int)/\i+m=x.Xc.length/\Part RR x.Xc s.2 i) x.Xc.length ⟨0,rfl,by omega,Part.zero _ _⟩ λm s ⟨i,hi,him,hP⟩=>?_) (λq ⟨i,hi,hq⟩=>?_)
  ·obtain⟨s1,L⟩:=s;dsimp only at hi hP ⊢;subst hi;refine Ok.ite (λh=>?_) (λh=>?_)
   ·have hiL:i<L.length:=by simpa using h
    obtain⟨k,hk1,hk2⟩:=hP.at hiL;refine Ok.at1 hl (by decide) λa a0 a1=>?_;rw[Qc6,hk2];simp only[Za];rw[QeC hiL];simp only[Za];rw[w64 (n:=a - 9) (by omega) (by omega)];exact Ok.mk ⟨m - 1,by have:=hP.1;omega,i+1,Qw (n:=x.Xc.length) (by have:=hP.1;omega) (by omega),by have:=hP.1;omega,hP.step hk1 ⟨rfl,by dsimp only;omega,by dsimp only;omega⟩⟩
   ·have hiL:¬i<L.length:=by simpa using h
    exact Ok.mk ⟨i,by have:=hP.1;omega,hP⟩
  ·obtain⟨q1,q2⟩:=hq.full hi;refine Ok.mk ⟨rfl,rfl,hp,?_,λr hr=>?_⟩
   ·have:q.map rkey=x.Xc.map rkey:=by
     refine ext_getElem? λj=>?_;rw[Ym,Ym]
     cases hf:x.Xc[j]? with
     | none=>rw[getElem?_eq_none (by rw[q1];exact List.getElem?_eq_none_iff.1 hf)]
     | some r=>obtain⟨g,hg,hr⟩:=q2 j r hf;rw[hg];simp only[Yb,hr.1]
    show (q.map rkey).Sublist (x.Xc.map rkey);rw[this];exact Sublist.refl _
   ·obtain⟨j,hj,rfl⟩:=ZY hr;have hjx:j<x.Xc.length:=by rw[<-q1];exact hj
    obtain⟨g,hg,hr⟩:=q2 j _ (Zb hjx);rw[Zb hj] at hg;obtain rfl:=Zu hg;exact hr.2

/- Package core. No condition. -/
import Derived.Test.YtlajingmjmnfgaaGreatDoorBdQ
import Derived.Test.YtlajingmjmnfgaaGreatDoorCoA
set_option linter.all false
open List Go.IntKind
namespace Go.Proofs.YtlajingmjmnfgaaGreatDoor
open Go.Sim
def Qhd (x:Qb):List Qi:=limL Qi.mk x
def nLim (x:Qb):Nat:=(Qhd x).length
def QcA (x:Qb) (I:Nat->Bool):Bool:=Qih (λk=>!(cycN x k λj=>I (nLim x+j)).isEmpty) x.Xa.length (sel (Qhd x) I zL) (refP (QfD x))
def Qj3 {α:Type} {l:List α} {p q:α->Bool} (h:∀a∈l,p a=q a):l.filter p=l.filter q:=filter_congr h
def QuD {x:Qb} {k:Int} {p q:Nat->Bool} (h:∀j,j<(Qao x).length->p j=q j):ownI x k p=ownI x k q:=by unfold ownI;exact Qj3 λj hj=>by rw[h j (ZP.1 hj)]
def QuE {x:Qb} {k:Int} {p q:Nat->Bool} (h:∀j,j<(Qao x).length->p j=q j):cycN x k p=cycN x k q:=by unfold cycN ownD;rw[QuD h]
def Ql8 {α:Type} {l:List α} {p q:Nat->Bool} {d:α} (h:∀i,i<l.length->p i=q i):sel l p d=sel l q d:=by unfold sel;rw[Qj3 λi hi=>h i (ZP.1 hi)]
def QsD {x:Qb} {I J:Nat->Bool} (h:∀i,i<nLim x+(Qao x).length->I i=J i):QcA x I=QcA x J:=by
 unfold QcA;have e:(λk=>!(cycN x k λj=>I (nLim x+j)).isEmpty)=λk=>!(cycN x k λj=>J (nLim x+j)).isEmpty:=by
  funext k
  rw[QuE λj hj=>h (nLim x+j) (by omega)]
 rw[e,Ql8 λi hi=>h i (by unfold nLim;omega)]
def QtA {s:List Nat} {i:Nat} (hs:s.length<=1000):QaP (i:Int) (ints s)=some (s.contains i):=by
 unfold QaP QdV QeU;rw[Qn8 (ints s) (λv=>(i:Int)==v) (λk hk=>?_) ?_]
 ·have e:s.contains i=(ints s).any λv=>(i:Int)==v:=by
   unfold ints;rw[any_map,contains_eq_any_beq];congr 1
   funext j
   rw[ZY];simp;omega
  rw[e,<-QCh];unfold fIx;cases (ints s).findIdx? λv=>(i:Int)==v<;>rfl
 ·rw[Zd (by simp)]
 ·rw[Zc (by simpa using hk),QG hk];simp only[Za];rw[Qw hk (by unfold ints;simp;omega)]
def QtB {x:Qb} (hc:Q0 x=[]) {s:List Nat} (hs:s.length<=1000):Qc6 (Qbq x) (ints s)=some (QcA x λi=>s.contains i):=by
 have hst:=QjP hc;unfold Qc6;rw[Qj2 (s:=Qbq x) (n:=x.Xa.length) rfl hst (p:=λi=>s.contains i) (E:=λk=>!(cycN x k λj=>s.contains (nLim x+j)).isEmpty) (λi _=>QtA hs) (λk hk=>?_)]
 ·rfl
 ·unfold QeH;rw[Qkl hc hk (p:=λj=>s.contains (nLim x+j)) (λj hj=>?_)]
  ·simp only[Za];congr 2;unfold ints;cases cycN x (k:Int) λj=>s.contains (nLim x+j)<;>rfl
  ·unfold QcH;have h1:=Qfr (Qan hc);have h2:=hst.len;have e:i64.wrap (((Qbq x).Xo.length:Int)+(j:Int))=((nLim x+j:Nat):Int):=by
    show i64.wrap (((limL Qi.mk x).length:Int)+(j:Int))=_;unfold nLim Qhd;rw[w64 (by omega) (by omega)];omega
   rw[e];show ((QaP ((nLim x+j:Nat):Int) (ints s)).bind λt13=>some t13)=_;rw[QtA hs];rfl
def QtC {l:List Str} {n:Str} (hl:l.length<=1000000):QgM l n=some (l.contains n):=by
 unfold QgM;rw[QcS l (λt=>!(t==n)) true (λk hk=>?_) (by rw[Zd (by simp)])]
 ·have e:l.contains n=!l.all λt=>!(t==n):=by
   rw[contains_eq_any_beq,all_eq_not_any_not,Bool.not_not];congr 1
   funext t
   rw[ZY];simp;exact eq_comm
  rw[e];cases l.all λt=>!(t==n)<;>rfl
 ·rw[Zc (by simpa using hk),QG hk];simp only[Za];rw[Qw hk (by omega)];cases l[k]==n<;>rfl
def Qhq {x:Qb}:(namL x).length=nLim x:=by
 unfold nLim Qhd namL limL;rw[length_flatMap,length_flatMap];congr 1;refine map_congr_left λi hi=>?_;unfold kndN kndL
 cases x.Xa[i]? with
 | none=>rfl
 | some q=>
  dsimp only;rw[Ze,Ze,length_flatMap,length_flatMap];refine ZH (2+sum ·) ?_;refine map_congr_left λj hj=>?_;unfold fldN fldL
  cases q.Xb[j]? with
  | none=>rfl
  | some f=>dsimp only;split<;>rfl
def QgE (x:Qb):(QaA x).length=nLim x+(Qao x).length:=by unfold QaA;rw[Ze,Qhq,Zz]
def Qa7 (x:Qb) (i:Nat):Str:=(QaA x).getD i []
def QuF {x:Qb} {i:Nat} (h:i<nLim x):(namL x)[i]?=some (Qa7 x i):=by unfold Qa7 QaA;rw[Zi,ZT (by rw[Qhq];exact h),Zb (by rw[Qhq];exact h)];rfl
def QsE {x:Qb} {j:Nat} (h:j<(Qao x).length):Qa7 x (nLim x+j)=(Qao x)[j].2.1:=by unfold Qa7 QaA;rw[Zi,ZN (by rw[Qhq];omega),Qhq,Nat.add_sub_cancel_left,ZG,Zb h];rfl
def QCI {α β:Type} (l:List α) (d:α) (p:Nat->Bool) (q:α->Bool) (g:α->β) (h:∀i (hi:i<l.length),q l[i]=p i):(l.filter q).map g=(sel l p d).map g:=by
 congr 1
 unfold sel;have e:l=(range l.length).map λi=>l.getD i d:=by refine ext_getElem (by simp) λi h1 h2=>?_;simp[Zi,h1]
 have e2:l.filter q=((range l.length).map λi=>l.getD i d).filter q:=by rw[<-e]
 rw[e2,filter_map];congr 1;refine Qj3 λi hi=>?_;have hi:=ZP.1 hi;have:=h i hi;simp only[Function.comp];rw[<-this,Zi,Zb hi];rfl
def QCJ {α:Type} (l:List α) (d:α) (p:Nat->Bool) {body:Int×List α->Option ((Int×List α)⊕List α)}
  (hs:∀k (h:k<l.length) (acc:List α),acc.length<=k->body ((k:Int),acc)=some (.inl (((k+1:Nat):Int),if p k=true then acc++[l[k]] else acc))) (he:∀acc,body ((l.length:Int),acc)=some (.inr acc)):
  Ql body ((0:Int),[])=some (sel l p d):=by
 refine (QmG (range l.length) p (λi=>l.getD i d) (λk hk acc ha=>?_) (λacc=>by rw[ZX];exact he acc)).trans rfl;rw[ZX] at hk;rw[hs k hk acc ha,getElem_range,Zi,Zb hk];rfl
def Qy8 {x:Qb} (hs:QcZ x) (hc:Q0 x=[]) {names:List Str} (hn:names.length<=1000000):QeQ x names=some (QcA x λi=>names.contains (Qa7 x i)):=by
 have hv:=Qan hc;have hst:=QjP hc;have h1:=Qfr hv;have h2:=hst.len;have h3:=hv.kinds;unfold QeQ;rw[Qk0 hs];unfold limR;rw[hc];dsimp only[Option.bind_some];have hml:=Qtp x;obtain⟨L,hL⟩:∃L,limL QB.mk x=L:=⟨_,rfl⟩;rw[hL] at hml ⊢;have hLl:L.length=nLim x:=by rw[<-hml,Zz];rfl
 rw[QCJ L ⟨0,0,0,false⟩ (λi=>names.contains (Qa7 x i)) (λk hk acc ha=>?_) (λacc=>by rw[Zd (by simp)])]
 ·simp only[Za];rw[QpK hs hc];simp only[Za];rw[QmG ((Qao x).map mkN) (λt=>names.contains t.Xj) (λt=>t) (λk hk acc ha=>?_) (λacc=>by rw[Zd (by simp)])]
  ·have e1:(((Qao x).map mkN).filter λt=>names.contains t.Xj).map (λt=>t)=(sel (Qao x) (λj=>names.contains (Qa7 x (nLim x+j))) d0T).map mkN:=by
    rw[map_id',filter_map];exact QCI (Qao x) d0T (λj=>names.contains (Qa7 x (nLim x+j))) _ mkN λi hi=>by rw[QsE hi];rfl
   rw[e1];simp only[Za];rw[Qis x.Xa.length false (by omega)];simp only[Za];refine QdK (g:=λ(p72:List Bool)=>(Qdz x _ p72).bind λt83=>some t83) x.Xa.length (λn=>((n:Int),((range n).map λ(k:Nat)=>!(cycN x (k:Int) λj=>names.contains (Qa7 x (nLim x+j))).isEmpty)++replicate (x.Xa.length - n) false)) ((range x.Xa.length).map λ(k:Nat)=>!(cycN x (k:Int) λj=>names.contains (Qa7 x (nLim x+j))).isEmpty) (by simp) (λn hn'=>?_) ?_ ?_
   ·have hln:(((range n).map λ(k:Nat)=>!(cycN x (k:Int) λj=>names.contains (Qa7 x (nLim x+j))).isEmpty)++replicate (x.Xa.length - n) false).length=x.Xa.length:=by simp;omega
    dsimp only;rw[hln,Zc (by simpa using hn'),Qxc hn' (by omega)];simp only[Za];rw[Qgz (by rw[hln];exact hn')];simp only[Za];rw[Qw hn' (by omega),set_append_right _ _ (by simp)];congr 3;have e2:x.Xa.length - n=(x.Xa.length - (n+1))+1:=by omega
    have e3:decide (((cycN x (n:Int) λj=>names.contains (Qa7 x (nLim x+j))).length:Int)>0)=!(cycN x (n:Int) λj=>names.contains (Qa7 x (nLim x+j))).isEmpty:=by
     cases cycN x (n:Int) λj=>names.contains (Qa7 x (nLim x+j)) with
     | nil=>rfl
     | cons a l=>simp
    rw[e2,replicate_succ,Zz,ZX,Nat.sub_self,set_cons_zero,e3,Yl,ZM,ZF];rfl
   ·dsimp only;rw[Nat.sub_self,replicate_zero,Yj,Zz,ZX,Zd (by simp)]
   ·have hsl:∀y∈sel L (λi=>names.contains (Qa7 x i)) ⟨0,0,0,false⟩,VL (toC y) x.Xa.length:=λy hy=>by
     obtain⟨i,hi,_⟩:=Qpb.1 hy;have:y∈L:=Zr hi;rw[<-hml] at this;obtain⟨z,hz,rfl⟩:=ZE.1 this;exact hst.lim z hz
    rw[QrQ hs hc hsl (by unfold sel;rw[Zz];have:=length_filter_le (λi=>names.contains (Qa7 x i)) (range L.length);rw[ZX] at this;unfold nLim Qhd at hLl;omega) (E:=λk=>!(cycN x k λj=>names.contains (Qa7 x (nLim x+j))).isEmpty) (λk hk=>by rw[QG (by simpa using hk)];simp)];simp only[Za];congr 1;unfold QcA;congr 1;unfold sel;rw[Yw,hLl];refine map_congr_left λi hi=>?_;have hi:i<nLim x:=ZP.1 (Yn.1 hi).1;simp only[Function.comp];have:L.getD i ⟨0,0,0,false⟩=Qo2 ((Qhd x).getD i zL):=by
     have hl2:i<(Qhd x).length:=hi;rw[Zi,Zb (by omega),Zi,Zb hl2];simp only[Yk];have:L[i]?=((limL Qi.mk x).map Qo2)[i]?:=by rw[hml]
     rw[Zb (by omega),ZG,Zb (show i<(limL Qi.mk x).length from hl2)] at this;exact Zt this
    rw[this];rfl
  ·rw[Zz] at hk;dsimp only;rw[Zc (by simpa using hk),QG (by simpa using hk)];simp only[Za];rw[QtC hn];simp only[Za];rw[Qw hk (by omega)];split
   ·rw[QaW (by simp;omega)];rfl
   ·rfl
 ·have hkl:k<nLim x:=by omega
  dsimp only;rw[Zc (by simpa using hk),QbS,QuF hkl];simp only[Za];rw[QtC hn];simp only[Za];unfold nLim Qhd at hLl;rw[Qw hk (by omega)];split
  ·rw[QG hk];simp only[Za];rw[QaW (by simp;omega)];rfl
  ·rfl
def Qcg (all:List Str):List Str->Nat->Option (List Nat)
 | [],_=>some []
 | n::l,b=>match all.findIdx? (λt=>n==t) with
  | some i=>if b<=i then (Qcg all l (i+1)).map (i::·) else none
  | none=>none
def QhI (x:Qb) (names:List Str):Int:=match Q0 x with
 | p::_=>p.Code
 | []=>if nLim x>16 then 4 else match Qcg (QaA x) names 0 with
  | none=>12
  | some js=>if QcA x (λi=>js.contains i)=true then 15 else if ((range js.length).all λs=>QcA x λi=>(js.eraseIdx s).contains i)=true then 0 else 15
def Qk9 {all:List Str}:∀{l:List Str} {b:Nat} {js:List Nat},Qcg all l b=some js->l=js.map (λi=>all.getD i [])/\js.Pairwise (·< ·)/\∀j∈js,b<=j/\j<all.length
 | [],b,js,h=>by obtain rfl:=Zt h;simp
 | n::l,b,js,h=>by
  unfold Qcg at h
  cases hi:all.findIdx? (λt=>n==t) with
  | none=>rw[hi] at h;cases h
  | some i=>
   rw[hi] at h;dsimp only at h;split at h
   ·next hb=>
    cases hm:Qcg all l (i+1) with
    | none=>rw[hm] at h;cases h
    | some ks=>
     rw[hm] at h;obtain rfl:=Zt h;obtain⟨h1,h2,h3⟩:=Qk9 hm;obtain⟨hl,hp,_⟩:=ZD.1 hi;refine⟨?_,pairwise_cons.2 ⟨λj hj=>(h3 j hj).1,h2⟩,λj hj=>?_⟩
     ·rw[Yi,<-h1,Zi,Zb hl];have:n=all[i]:=by simpa using hp
      rw[this];rfl
     ·rcases Zo.1 hj with rfl | hj
      ·exact⟨hb,hl⟩
      ·have:=h3 j hj;exact⟨by omega,this.2⟩
   ·cases h
def QpV {all l:List Str} {b:Nat} {js:List Nat} (h:Qcg all l b=some js):js.length=l.length/\js.length<=all.length:=by
 obtain⟨h1,h2,h3⟩:=Qk9 h;have e:js.length=l.length:=by rw[h1];simp
 have hn:js.Nodup:=h2.imp λh=>by omega
 have:=Qhp js (range all.length) hn λj hj=>ZP.2 (h3 j hj).2;rw[ZX] at this;exact⟨e,this⟩
def Ql9 {α:Type} {l:List α} (h:l.Nodup) {i j:Nat} (hi:i<l.length) (hj:j<l.length) (e:l[i]=l[j]):i=j:=by
 have hp:=pairwise_iff_getElem.1 (show Pairwise (·≠·) l from h);rcases Nat.lt_trichotomy i j with h' | h' | h'
 ·exact absurd e (hp i j hi hj h')
 ·exact h'
 ·exact absurd e.symm (hp j i hj hi h')
def Qxd {x:Qb} (hc:Q0 x=[]) {js:List Nat} (hj:∀j∈js,j<(QaA x).length) {i:Nat} (hi:i<(QaA x).length):(js.map λi=>(QaA x).getD i []).contains (Qa7 x i)=js.contains i:=by
 rw[ZY,contains_iff_mem,contains_iff_mem,ZE];constructor
 ·rintro ⟨j,hjm,e⟩;have hjl:=hj j hjm;have hn:=Qii hc;unfold Qa7 at e;rw[Zi,Zi,Zb hjl,Zb hi] at e;rw[<-Ql9 hn hjl hi e];exact hjm
 ·intro h;exact⟨i,h,rfl⟩
def Qy9 {l:List Str} {n:Str} (hl:l.length<=1000000):Qce l n=some (match l.findIdx? (λt=>n==t) with | some k=>(k:Int) | none=>-1):=by
 unfold Qce;rw[Qn8 l (λt=>n==t) (λk hk=>?_) (by rw[Zd (by simp)])]
 ·cases l.findIdx? (λt=>n==t)<;>rfl
 ·rw[Zc (by simpa using hk),QG hk];simp only[Za];rw[Qw hk (by omega)]
def QiY (acc:List Nat):Nat:=match acc.getLast? with | some a=>a+1 | none=>0
def Qxe {all names:List Str} (ha:all.length<=1000) (hn:names.length<=1000000) {body:Int×List Int->Option ((Int×List Int)⊕(List Int⊕Int))}
  (hb:∀k (h:k<names.length) (acc:List Nat),acc.length<=k->body ((k:Int),ints acc)=(Qce all names[k]).bind λt37=>(opt (((decide (t37<(0:Int)))==false)&&((decide (((ints acc).length:Int)>(0:Int)))==true)) (idx (ints acc) (i64.wrap (((ints acc).length:Int) - (1:Int)))) default).bind λt50=>(if ((decide (t37<(0:Int)))||((decide (((ints acc).length:Int)>(0:Int)))&&(decide (t37<=t50))))=true then (some (.inr (.inr (12:Int)))) else (rm ((ints acc).length+[t37].length)).bind λ_=>(some (.inl ((i64.wrap ((k:Int)+(1:Int))),((ints acc)++[t37]))))))
  (he:∀acc:List Nat,body ((names.length:Int),ints acc)=some (.inr (.inl (ints acc)))):
  Ql body ((0:Int),[])=some (match Qcg all names 0 with | some js=>.inl (ints js) | none=>.inr (12:Int)):=by
 have key:∀m k (acc:List Nat),k+m=names.length->acc.length<=k->Ql body ((k:Int),ints acc)=some (match Qcg all (names.drop k) (QiY acc) with | some js=>.inl (ints (acc++js)) | none=>.inr (12:Int)):=by
  intro m
  induction m with
  | zero=>
   intro k acc hk _;have:k=names.length:=by omega
   subst this;rw[Qac,he,YC];simp[Qcg]
  | succ m ih=>
   intro k acc hk hal;have hkl:k<names.length:=by omega
   rw[Qac,hb k hkl acc hal,Qy9 (by omega),Yp hkl];unfold Qcg
   cases hi:all.findIdx? (λt=>names[k]==t) with
   | none=>simp[opt]
   | some i=>
    obtain⟨hil,_,_⟩:=ZD.1 hi;simp only[Za];have hneg:decide ((i:Int)<0)=false:=decide_eq_false (by omega);rw[hneg];have hcond:∃t,(opt ((false==false)&&((decide (((ints acc).length:Int)>(0:Int)))==true)) (idx (ints acc) (i64.wrap (((ints acc).length:Int) - (1:Int)))) default)=some t/\(false||((decide (((ints acc).length:Int)>(0:Int)))&&(decide ((i:Int)<=t))))=!decide (QiY acc<=i):=by
     have hlen:(ints acc).length=acc.length:=by unfold ints;simp
     rcases eq_nil_or_concat acc with rfl | ⟨pre,a,rfl⟩
     ·exact⟨default,by simp[opt,ints],by simp[ints,QiY]⟩
     ·simp only[concat_eq_append] at hlen hal ⊢;rw[hlen];have e1:i64.wrap (((pre++[a]).length:Int) - 1)=(pre.length:Int):=by rw[Ze];simp;rw[w64 (by omega) (by simp at hal;omega)]
      refine⟨(a:Int),?_,?_⟩
      ·rw[e1,QbS];have:(ints (pre++[a]))[pre.length]?=some (a:Int):=by unfold ints;simp
       rw[this];simp[opt]
      ·have:QiY (pre++[a])=a+1:=by unfold QiY;simp
       rw[this,ZY];simp;omega
    obtain⟨t,ht,hc⟩:=hcond;rw[ht];simp only[Za];rw[hc];by_cases hle:QiY acc<=i
    ·rw[decide_eq_true hle];simp only[Bool.not_true,ZL,if_false,Zc hle];rw[QaW (by unfold ints;simp;omega),Qw hkl (by omega)];simp only[Za];have e:ints acc++[(i:Int)]=ints (acc++[i]):=by unfold ints;simp
     rw[e,ih (k+1) (acc++[i]) (by omega) (by simp;omega)];have e2:QiY (acc++[i])=i+1:=by unfold QiY;simp
     rw[e2]
     cases Qcg all (names.drop (k+1)) (i+1) with
     | none=>rfl
     | some js=>simp
    ·rw[decide_eq_false hle];simp[hle]
 have:=key names.length 0 [] (by omega) (by simp);rw[drop_zero] at this;simpa[QiY,ints] using this
def QuG (js:List Nat) (s:Nat):(ints js).take s++(ints js).drop (s+1)=ints (js.eraseIdx s):=by unfold ints;rw[eraseIdx_eq_take_drop_succ,ZM,map_take,map_drop]
def Qla {x:Qb} (hs:QcZ x) {names:List Str} (hn:names.length<=1000000):QcN x names=some (QhI x names):=by
 unfold QcN QhI;rw[Qru hs];unfold QhH
 cases hc:Q0 x with
 | cons p l=>have:=Qhm (x:=x) (p:=p) (by rw[hc];exact Zn ..);dsimp only[Option.bind_some];rw[Zc (by simpa using this)]
 | nil=>
  have hv:=Qan hc;have hst:=QjP hc;have hnl:(QaA x).length<=1000:=by have h1:=Qfr hv;have h2:=Qjt hv;unfold QaA;rw[Ze,Zz];omega
  dsimp only[Option.bind_some];rw[Zd (by simp),Qrx hs hc];simp only[Za];rw[show (Qbq x).Xo=Qhd x from rfl];by_cases h16:nLim x>16
  ·rw[Zc (decide_eq_true (by unfold nLim at h16;omega)),Zc h16]
  ·rw[Zd (by simp;unfold nLim at h16;omega),Zd h16];rw[Qxe (all:=QaA x) (names:=names) hnl hn (λk hk acc _=>by
    dsimp only;rw[Zc (by simpa using hk),QG hk];rfl) (λacc=>by rw[Zd (by simp)])]
   simp only[Za]
   cases hm:Qcg (QaA x) names 0 with
   | none=>rfl
   | some js=>
    have hjl:=(QpV hm).2;dsimp only;rw[QtB hc (by omega)];simp only[Za]
    cases hk:QcA x λi=>js.contains i with
    | true=>rfl
    | false=>
     rw[Zd (by simp),Zd (by simp)];have hil:(ints js).length=js.length:=by unfold ints;simp
     rw[QcS (range js.length) (λs=>QcA x λi=>(js.eraseIdx s).contains i) (15:Int) (λs hs'=>?_) (by rw[ZX,hil,Zd (by simp)])]
     ·cases (range js.length).all λs=>QcA x λi=>(js.eraseIdx s).contains i<;>rfl
     ·rw[ZX] at hs';rw[hil,Zc (by simpa using hs'),getElem_range];unfold QeV;rw[QaW (by simp;omega)];simp only[Za,Yf];rw[Qw hs' (by omega)];unfold QeB;rw[Zc ⟨by omega,by omega,by omega,by omega⟩];simp only[Za,Zv];rw[QuG,QtB hc (by have:=length_eraseIdx_le js s;omega)];simp only[Za];cases QcA x λi=>(js.eraseIdx s).contains i<;>rfl
def QuH {all:List Str} (hn:all.Nodup) {n:Str} {b:Nat} (hb:b<=all.length) {body:Int->Option (Int⊕Int)}
  (h:∀s:Nat,s<=all.length->body (s:Int)=some (if h:s<all.length then (if (all[s] !=n)=true then .inl ((s+1:Nat):Int) else .inr (s:Int)) else .inr (s:Int))):
  Ql body (b:Int)=some (match all.findIdx? (λt=>n==t) with | some i=>if b<=i then (i:Int) else (all.length:Int) | none=>(all.length:Int)):=by
 have key:∀(t:Nat),t<=all.length->(∀s (hs:s<all.length),b<=s->s<t->all[s]≠n)->(∀ht:t<all.length,all[t]=n)->∀m s,s+m=t->b<=s->Ql body (s:Int)=some (t:Int):=by
  intro t htl h1 h2 m
  induction m with
  | zero=>
   intro s hs _;have:s=t:=by omega
   subst this;rw[Qac,h s htl];by_cases hlt:s<all.length
   ·rw[dif_pos hlt,h2 hlt];simp
   ·rw[dif_neg hlt]
  | succ m ih=>
   intro s hs hbs;have hlt:s<all.length:=by omega
   have:=h1 s hlt hbs (by omega);rw[Qac,h s (by omega),dif_pos hlt,Zc (by simpa using this)];exact ih (s+1) (by omega) (by omega)
 cases hi:all.findIdx? (λt=>n==t) with
 | none=>
  have hnone:∀s (hs:s<all.length),all[s]≠n:=λs hs e=>by have:=findIdx?_eq_none_iff.1 hi _ (Zm hs);rw[e] at this;simp at this
  exact key all.length (ZB _) (λs hs _ _=>hnone s hs) (λh=>by omega) (all.length - b) b (by omega) (ZB _)
 | some i=>
  obtain⟨hil,hp,_⟩:=ZD.1 hi;have hp:n=all[i]:=by simpa using hp
  have huniq:∀s (hs:s<all.length),all[s]=n->s=i:=λs hs e=>by rw[hp] at e;exact Ql9 hn hs hil e
  dsimp only;by_cases hbi:b<=i
  ·rw[Zc hbi];exact key i (by omega) (λs hs _ hsi e=>by have:=huniq s hs e;omega) (λ_=>hp.symm) (i - b) b (by omega) (ZB _)
  ·rw[Zd hbi];exact key all.length (ZB _) (λs hs hbs _ e=>by have:=huniq s hs e;omega) (λh=>by omega) (all.length - b) b (by omega) (ZB _)
def QuI {all names:List Str} {body:Int×Int->Option ((Int×Int)⊕(Unit⊕Int))}
  (hb:∀k (h:k<names.length) (b:Nat),b<=all.length->body ((k:Int),(b:Int))=some (match all.findIdx? (λt=>names[k]==t) with | some i=>if b<=i then .inl (((k+1:Nat):Int),((i+1:Nat):Int)) else .inr (.inr (12:Int)) | none=>.inr (.inr (12:Int))))
  (he:∀b:Nat,body ((names.length:Int),(b:Int))=some (.inr (.inl ()))):
  Ql body ((0:Int),(0:Int))=some (match Qcg all names 0 with | some _=>.inl () | none=>.inr (12:Int)):=by
 have key:∀m k (b:Nat),k+m=names.length->b<=all.length->Ql body ((k:Int),(b:Int))=some (match Qcg all (names.drop k) b with | some _=>.inl () | none=>.inr (12:Int)):=by
  intro m
  induction m with
  | zero=>
   intro k b hk _;have:k=names.length:=by omega
   subst this;rw[Qac,he,YC];simp[Qcg]
  | succ m ih=>
   intro k b hk hbl;have hkl:k<names.length:=by omega
   rw[Qac,hb k hkl b hbl,Yp hkl];unfold Qcg
   cases hi:all.findIdx? (λt=>names[k]==t) with
   | none=>rfl
   | some i=>
    obtain⟨hil,_,_⟩:=ZD.1 hi;dsimp only;by_cases hle:b<=i
    ·rw[Zc hle,Zc hle];dsimp only;rw[ih (k+1) (i+1) (by omega) (by omega)];cases Qcg all (names.drop (k+1)) (i+1)<;>rfl
    ·rw[Zd hle,Zd hle]
 have:=key names.length 0 0 (by omega) (by omega);rw[drop_zero] at this;exact this
def QsF {x:Qb} (hs:QcZ x) {names:List Str} (hn:names.length<=1000000):Qdt x names=some (QhI x names):=by
 unfold Qdt QhI;rw[QpM hs];unfold QhH
 cases hc:Q0 x with
 | cons p l=>have:=Qhm (x:=x) (p:=p) (by rw[hc];exact Zn ..);dsimp only[Option.bind_some];rw[Zc (by simpa using this)]
 | nil=>
  have hv:=Qan hc;have hst:=QjP hc;have hnl:(QaA x).length<=1000:=by have h1:=Qfr hv;have h2:=Qjt hv;unfold QaA;rw[Ze,Zz];omega
  have hnd:=Qii hc;dsimp only[Option.bind_some];rw[Zd (by simp),Qk0 hs];unfold limR;rw[hc];dsimp only[Option.bind_some];have hll:(limL QB.mk x).length=nLim x:=by rw[<-Qtp,Zz];rfl
  rw[hll];by_cases h16:nLim x>16
  ·rw[Zc (decide_eq_true (by omega)),Zc h16]
  ·rw[Zd (by simp;omega),Zd h16];rw[QuI (all:=QaA x) (names:=names) (λk hk b hbl=>?_) (λb=>by rw[Zd (by simp)])]
   ·simp only[Za]
    cases hm:Qcg (QaA x) names 0 with
    | none=>rfl
    | some js=>
     obtain⟨hjl1,hjl⟩:=QpV hm;obtain⟨hnames,_,hjn⟩:=Qk9 hm;have hjn':∀j∈js,j<(QaA x).length:=λj hj=>(hjn j hj).2;have hkept:∀ks:List Nat,(∀j∈ks,j∈js)->ks.length<=1000->QeQ x (ks.map λi=>(QaA x).getD i [])=some (QcA x λi=>ks.contains i):=λks hks hkl=>by rw[Qy8 hs hc (by rw[Zz];omega)];congr 1;exact QsD λi hi=>Qxd hc (λj hj=>hjn' j (hks j hj)) (by rw[QgE];exact hi)
     dsimp only;rw[hnames,hkept js (λ_ h=>h) (by omega)];simp only[Za]
     cases hk:QcA x λi=>js.contains i with
     | true=>rfl
     | false=>
      rw[Zd (by simp),Zd (by simp)];have hil:(js.map λi=>(QaA x).getD i []).length=js.length:=by simp
      rw[QcS (range js.length) (λs=>QcA x λi=>(js.eraseIdx s).contains i) (15:Int) (λs hs'=>?_) (by rw[ZX,hil,Zd (by simp)])]
      ·cases (range js.length).all λs=>QcA x λi=>(js.eraseIdx s).contains i<;>rfl
      ·rw[ZX] at hs';rw[hil,Zc (by simpa using hs'),getElem_range];unfold sub;rw[Zc ⟨by omega,by omega,by rw[hil];omega⟩];simp only[Za];rw[QaW (by simp;omega)];simp only[Za];rw[Qw hs' (by omega),Zc ⟨by omega,by omega,by omega⟩];simp only[Za];rw[QaW (by simp;omega)];simp only[Za];have e:(([]:List Str)++((js.map λi=>(QaA x).getD i []).drop (0:Int).toNat).take ((s:Int).toNat - (0:Int).toNat))++((js.map λi=>(QaA x).getD i []).drop (((s+1:Nat):Int)).toNat).take (((js.length:Nat):Int).toNat - (((s+1:Nat):Int)).toNat)=(js.eraseIdx s).map λi=>(QaA x).getD i []:=by
        rw[eraseIdx_eq_take_drop_succ,ZM,map_take,map_drop];simp only[Zv,Yf,Int.toNat_zero,drop_zero,Nat.sub_zero];congr 1;refine ZJ ?_;simp
       rw[e,hkept (js.eraseIdx s) (λj hj=>mem_of_mem_eraseIdx hj) (by have:=length_eraseIdx_le js s;omega)];simp only[Za];cases QcA x λi=>(js.eraseIdx s).contains i<;>rfl
   ·dsimp only;rw[Zc (by simpa using hk)];rw[QuH hnd (n:=names[k]) hbl (λs hs'=>?_)]
    ·simp only[Za]
     cases hi:(QaA x).findIdx? (λt=>names[k]==t) with
     | none=>dsimp only;rw[Zc (by simp)]
     | some i=>
      obtain⟨hil,_,_⟩:=ZD.1 hi;dsimp only;by_cases hbi:b<=i
      ·simp only[Zc hbi];have h1:¬((i:Int)>=((QaA x).length:Int)):=by omega
       rw[decide_eq_false h1,Zd (by simp),Qw hk (by omega),Qw hil (by omega)]
      ·simp only[Zd hbi];have h1:((QaA x).length:Int)>=((QaA x).length:Int):=by omega
       rw[decide_eq_true h1,Zc rfl]
    ·by_cases hlt:s<(QaA x).length
     ·have e1:imin (s:Int) (i64.wrap (((QaA x).length:Int) - 1))=(s:Int):=by
       rw[w64 (by omega) (by omega)];unfold imin;rw[Zd (by omega)]
      rw[e1,decide_eq_true (show (s:Int)<((QaA x).length:Int) by omega),QG hlt,QG hk,dif_pos hlt];simp only[opt,beq_self_eq_true,if_true,Za,Bool.true_and];rw[Qw hlt (by omega)];split<;>rfl
     ·rw[decide_eq_false (show ¬(s:Int)<((QaA x).length:Int) by omega),dif_neg hlt];simp[opt]
def cyc (x:Qb) (k:Nat):List Nat:=cycN x (k:Int) λ_=>true
def recS (x:Qb) (K:Nat):List Nat:=(range x.Xa.length).flatMap λk=>if K.testBit k=true then cyc x k else []
def Qeq (x:Qb) (m K:Nat):Bool:=Qih (λk=>K.testBit k.toNat) x.Xa.length (sel (Qhd x) (λi=>m.testBit i) zL) (refP (QfD x))
def QeW (x:Qb):Bool:=Qih (λk=>!(cycN x k λ_=>true).isEmpty) x.Xa.length (sel (Qhd x) (λ_=>true) zL) (refP (QfD x))
def QjQ (x:Qb) (K:Nat):Prop:=K<2 ^ x.Xa.length/\∀k,k<x.Xa.length->K.testBit k=true->cyc x k≠[]
def QbR (x:Qb) (K m:Nat):Nat:=ones m+(recS x K).length
def wOf (x:Qb) (K m:Nat):List Nat:=setL (nLim x) m++(recS x K).map λc=>nLim x+c
structure BadM (x:Qb) (K m:Nat):Prop where
 good:QjQ x K
 lt:m<2 ^ nLim x
 bad:Qeq x m K=false
structure MinM (x:Qb) (K m:Nat):Prop where
 bad:BadM x K m
 min:∀K' m',BadM x K' m'->QbR x K m<=QbR x K' m'
def Qkm (p:Nat->Bool):∀n,∃K,K<2 ^ n/\∀k,k<n->K.testBit k=p k
 | 0=>⟨0,by omega,λk hk=>by omega⟩
 | n+1=>by
  obtain⟨K,h1,h2⟩:=Qkm (λk=>p (k+1)) n
  cases hp:p 0 with
  | true=>
   refine⟨2 * K+1,by rw[Nat.pow_succ];omega,λk hk=>?_⟩
   cases k with
   | zero=>rw[QyH,hp]
   | succ k=>rw[QCj];exact h2 k (by omega)
  | false=>
   refine⟨2 * K,by rw[Nat.pow_succ];omega,λk hk=>?_⟩
   cases k with
   | zero=>rw[Qwo,hp]
   | succ k=>rw[QyG];exact h2 k (by omega)
def Qm0 {n:Nat} {E F:Int->Bool} {l:List Qi} {r:List (Int×Int)} (h:∀k:Nat,k<n->E (k:Int)=F (k:Int)):Qih E n l r=Qih F n l r:=by
 have key:∀(f:Nat) (v:List Int),QiV E n l r f v=QiV F n l r f v:=by
  intro f
  induction f with
  | zero=>intro v;rfl
  | succ f ih=>
   intro v;unfold QiV
   cases rnd l r v with
   | none=>rfl
   | some w=>dsimp only;rw[QuC h,ih w]
 exact key _ _
section
variable {x:Qb} (hc:Q0 x=[])
include hc
def Qjy {k:Nat} (hk:k<x.Xa.length) {c:Nat} (h:c∈cyc x k):c<(Qao x).length/\dK x c=(k:Int):=by
 have hne:cycN x (k:Int) (λ_=>true)≠[]:=λe=>by unfold cyc at h;rw[e] at h;cases h
 have:=(Qnm hc (by omega) (by omega) _ hne).1 c h;exact⟨this.1,this.2.1⟩
def Qxf {k:Nat} (hk:k<x.Xa.length):(cyc x k).Nodup:=by
 by_cases hne:cycN x (k:Int) (λ_=>true)=[]
 ·unfold cyc;rw[hne];exact nodup_nil
 ·exact (Qnm hc (by omega) (by omega) _ hne).2.1
omit hc in
def QgT {K c:Nat}:c∈recS x K↔∃k,k<x.Xa.length/\K.testBit k=true/\c∈cyc x k:=by
 unfold recS;simp only[ZW,ZP];constructor
 ·rintro ⟨k,hk,h⟩;split at h
  ·next hb=>exact⟨k,hk,hb,h⟩
  ·cases h
 ·rintro ⟨k,hk,hb,h⟩;exact⟨k,hk,by rw[Zc hb];exact h⟩
def QjR (K:Nat):(recS x K).Nodup:=by
 unfold recS;refine QgQ (λc=>(dK x c).toNat) _ _ λk hk=>⟨?_,λc h=>?_⟩
 ·split
  ·exact Qxf hc hk
  ·exact nodup_nil
 ·split at h
  ·have:=(Qjy hc hk h).2;omega
  ·cases h
def QrR {K c:Nat} (h:c∈recS x K):c<(Qao x).length:=by obtain⟨k,hk,_,h⟩:=QgT.1 h;exact (Qjy hc hk h).1
def QCK (K:Nat):(recS x K).length<=(Qao x).length:=by
 have:=Qhp _ (range (Qao x).length) (QjR hc K) λc h=>ZP.2 (QrR hc h)
 rwa [ZX] at this
omit hc in
def Qlb (f m:Nat):(setL f m).Nodup:=Pairwise.sublist filter_sublist (nodup_range)
def QCL (K m:Nat):(wOf x K m).Nodup:=by
 unfold wOf;refine nodup_append.2 ⟨Qlb _ _,?_,λa ha b hb e=>?_⟩
 ·show Pairwise _ _;rw[pairwise_map];exact (QjR hc K).imp λh e=>h (by omega)
 ·obtain⟨c,_,rfl⟩:=ZE.1 hb;have:=(QgB.1 ha).1;omega
def w_lt {K m i:Nat} (h:i∈wOf x K m):i<nLim x+(Qao x).length:=by
 unfold wOf at h;rcases Zs.1 h with h | h
 ·have:=(QgB.1 h).1;omega
 ·obtain⟨c,hcm,rfl⟩:=ZE.1 h;have:=QrR hc hcm;omega
omit hc in
def Qqv {K m i:Nat} (hi:i<nLim x):i∈wOf x K m↔m.testBit i=true:=by
 unfold wOf;rw[Zs,QgB];constructor
 ·rintro (h | h)
  ·exact h.2
  ·obtain⟨c,_,e⟩:=ZE.1 h;omega
 ·exact λh=>.inl ⟨hi,h⟩
omit hc in
def Qou {K m c:Nat}:nLim x+c∈wOf x K m↔c∈recS x K:=by
 unfold wOf;rw[Zs];constructor
 ·rintro (h | h)
  ·have:=(QgB.1 h).1;omega
  ·obtain⟨d,hd,e⟩:=ZE.1 h;have:d=c:=by omega
   rw[<-this];exact hd
 ·exact λh=>.inr (ZE.2 ⟨c,h,rfl⟩)
omit hc in
def QmI {K m:Nat} (h16:nLim x<=16) (hm:m<2 ^ nLim x):(wOf x K m).length=QbR x K m:=by unfold wOf QbR;rw[Ze,Zz,Qfy _ _ h16 hm]
def Qza {k:Nat} (hk:k<x.Xa.length) {I:Nat->Bool} {b:Bool} (h1:b=true->NegK x (k:Int) λj=>I j=true) (h2:b=false->¬NegK x (k:Int) λj=>I j=true):(!(cycN x (k:Int) I).isEmpty)=b:=by
 have h:=(Qo8 hc (k:=(k:Int)) (by omega) (by omega) I).1
 cases b with
 | true=>
  have:=h.2 (h1 rfl)
  cases hC:cycN x (k:Int) I with
  | nil=>exact absurd hC this
  | cons a l=>rfl
 | false=>
  cases hC:cycN x (k:Int) I with
  | nil=>rfl
  | cons a l=>exact absurd (h.1 (by rw[hC];simp)) (h2 rfl)
def Qpd {k:Nat} (hk:k<x.Xa.length) (hne:cyc x k≠[]):(NegK x (k:Int) λj=>j∈cyc x k)/\∀c∈cyc x k,¬NegK x (k:Int) λj=>j∈cyc x k/\j≠c:=
 have h:=Qnm hc (k:=(k:Int)) (by omega) (by omega) _ hne
 ⟨h.2.2.1,h.2.2.2⟩
def Qma {I:Nat->Bool} {m K:Nat} (hm:∀i,i<nLim x->I i=m.testBit i) (hK:∀k,k<x.Xa.length->(K.testBit k=true->NegK x (k:Int) λj=>I (nLim x+j)=true)/\(K.testBit k=false->¬NegK x (k:Int) λj=>I (nLim x+j)=true)):QcA x I=Qeq x m K:=by unfold QcA Qeq;rw[Ql8 (p:=I) (q:=λi=>m.testBit i) (λi hi=>hm i hi)];refine Qm0 λk hk=>?_;rw[Zv];exact Qza hc hk (hK k hk).1 (hK k hk).2
omit hc in
def Qzb {k:Int} {I:Nat->Prop} (h:NegK x k I):∃j,dK x j=k/\I j:=by
 obtain⟨i,es,h1,h2,h3⟩:=h
 cases es with
 | nil=>simp[esum] at h2
 | cons e es=>obtain⟨j,_,j2,j3,_⟩:=h3 e (Zn ..);exact⟨j,j2,j3⟩
def Qpe {K k:Nat} (hg:QjQ x K) (hk:k<x.Xa.length):(K.testBit k=true->NegK x (k:Int) λj=>j∈recS x K)/\(K.testBit k=false->¬NegK x (k:Int) λj=>j∈recS x K):=by
 refine⟨λhb=>(Qpd hc hk (hg.2 k hk hb)).1.mono λj _ hj=>QgT.2 ⟨k,hk,hb,hj⟩,λhb hn=>?_⟩;obtain⟨j,hj,hr⟩:=Qzb hn;obtain⟨k',hk',hb',hjc⟩:=QgT.1 hr;have:=(Qjy hc hk' hjc).2;have:k'=k:=by omega
 subst this;rw[hb] at hb';cases hb'
def w_kept {js:List Nat} {K m:Nat} (hg:QjQ x K) (hj:∀i,i∈js↔i∈wOf x K m):QcA x (λi=>js.contains i)=Qeq x m K:=by
 refine Qma hc (λi hi=>?_) (λk hk=>?_)
 ·rw[ZY,contains_iff_mem,hj,Qqv hi]
 ·have e:(λj=>js.contains (nLim x+j)=true)=λj=>j∈recS x K:=by
   funext j
   rw[contains_iff_mem,hj,Qou]
  rw[e];exact Qpe hc hg hk
def w_less {js:List Nat} {K m a:Nat} (h16:nLim x<=16) (hmin:MinM x K m) (ha:a∈wOf x K m) (hj:∀i,i∈js↔i∈wOf x K m/\i≠a):QcA x (λi=>js.contains i)=true:=by
 have hg:=hmin.bad.good;by_cases hlim:a<nLim x
 ·obtain⟨m',h1,h2⟩:=Qkm (λi=>m.testBit i&&decide (i≠a)) (nLim x);have e:QcA x (λi=>js.contains i)=Qeq x m' K:=by
   refine Qma hc (λi hi=>?_) (λk hk=>?_)
   ·rw[h2 i hi,ZY,contains_iff_mem,hj,Qqv hi];simp
   ·have e:(λj=>js.contains (nLim x+j)=true)=λj=>j∈recS x K:=by
     funext j
     rw[contains_iff_mem,hj,Qou];exact propext ⟨λh=>h.1,λh=>⟨h,by omega⟩⟩
    rw[e];exact Qpe hc hg hk
  rw[e]
  cases hp:Qeq x m' K with
  | true=>rfl
  | false=>
   exfalso;have hle:=hmin.min K m' ⟨hg,h1,hp⟩;have hbit:=(Qqv hlim).1 ha;unfold QbR at hle;rw[<-Qfy _ _ h16 h1,<-Qfy _ _ h16 hmin.bad.lt] at hle;have hin:a∈setL (nLim x) m:=QgB.2 ⟨hlim,hbit⟩;have hl:=Qhp (setL (nLim x) m') ((setL (nLim x) m).erase a) (Qlb _ _) λi hi=>by obtain⟨i1,i2⟩:=QgB.1 hi;rw[h2 i i1] at i2;simp only[Zf,Zk] at i2;exact ((Qlb _ _).mem_erase_iff).2 ⟨i2.2,QgB.2 ⟨i1,i2.1⟩⟩
   rw[length_erase_of_mem hin] at hl;have:0<(setL (nLim x) m).length:=length_pos_of_mem hin;omega
 ·obtain⟨c,rfl⟩:∃c,a=nLim x+c:=⟨a - nLim x,by omega⟩;obtain⟨k0,hk0,hb0,hc0⟩:=QgT.1 (Qou.1 ha);obtain⟨K',h1,h2⟩:=Qkm (λk=>K.testBit k&&decide (k≠k0)) x.Xa.length;have hg':QjQ x K':=⟨h1,λk hk hb=>by
   rw[h2 k hk] at hb;simp only[Zf] at hb;exact hg.2 k hk hb.1⟩
  have e:QcA x (λi=>js.contains i)=Qeq x m K':=by
   refine Qma hc (λi hi=>?_) (λk hk=>?_)
   ·rw[ZY,contains_iff_mem,hj,Qqv hi];exact⟨λh=>h.1,λh=>⟨h,by omega⟩⟩
   ·have e:(λj=>js.contains (nLim x+j)=true)=λj=>j∈recS x K/\j≠c:=by
     funext j
     rw[contains_iff_mem,hj,Qou];exact propext ⟨λh=>⟨h.1,λe=>h.2 (by rw[e])⟩,λh=>⟨h.1,λe=>h.2 (by omega)⟩⟩
    rw[e,h2 k hk];refine⟨λhb=>?_,λhb hn=>?_⟩
    ·simp only[Zf,Zk] at hb;refine (Qpd hc hk (hg.2 k hk hb.1)).1.mono λj hdk hj=>⟨QgT.2 ⟨k,hk,hb.1,hj⟩,λe=>?_⟩;have h3:=(Qjy hc hk0 hc0).2;rw[<-e,hdk] at h3;exact hb.2 (by omega)
    ·by_cases hbk:K.testBit k=true
     ·rw[hbk,Bool.true_and] at hb;have hkk:k=k0:=by simpa using hb
      subst hkk;refine (Qpd hc hk (hg.2 k hk hbk)).2 c hc0 (hn.mono λj hdk ⟨hj1,hj2⟩=>⟨?_,hj2⟩);obtain⟨k',hk',_,hjc⟩:=QgT.1 hj1;have h3:=(Qjy hc hk' hjc).2;have:k'=k:=by omega
      rw[<-this];exact hjc
     ·exact (Qpe hc hg hk).2 (by simpa using hbk) (hn.mono λj _ h=>h.1)
  rw[e]
  cases hp:Qeq x m K' with
  | true=>rfl
  | false=>
   exfalso;have hle:=hmin.min K' m ⟨hg',hmin.bad.lt,hp⟩;unfold QbR at hle;have hin:c∈recS x K:=Qou.1 ha;have hl:=Qhp (recS x K') ((recS x K).erase c) (QjR hc _) λi hi=>by obtain⟨k',hk',hb',hic⟩:=QgT.1 hi;rw[h2 k' hk'] at hb';simp only[Zf,Zk] at hb';refine ((QjR hc _).mem_erase_iff).2 ⟨λe=>?_,QgT.2 ⟨k',hk',hb'.1,hic⟩⟩;have h3:=(Qjy hc hk' hic).2;have h4:=(Qjy hc hk0 hc0).2;rw[e,h4] at h3;exact hb'.2 (by omega)
   rw[length_erase_of_mem hin] at hl;have:0<(recS x K).length:=length_pos_of_mem hin;omega
def QrS {K m:Nat} (h16:nLim x<=16) (h:BadM x K m):0<QbR x K m:=by
 rcases Nat.eq_zero_or_pos (QbR x K m) with h0 | h0
 ·exfalso;unfold QbR at h0;have h1:(setL (nLim x) m).length=0:=by rw[Qfy _ _ h16 h.lt];omega
  have h2:recS x K=[]:=ZU (by omega);have hK:∀k,k<x.Xa.length->K.testBit k=false:=λk hk=>by
   cases hb:K.testBit k with
   | false=>rfl
   | true=>
    have hne:=h.good.2 k hk hb
    cases hcy:cyc x k with
    | nil=>exact absurd hcy hne
    | cons c l=>have:c∈recS x K:=QgT.2 ⟨k,hk,hb,by rw[hcy];exact Zn ..⟩;rw[h2] at this;cases this
  have hst:StOk x.Xa.length (Qhd x) (QfD x):=QjP hc;have hp:Qeq x m K=true:=by
   unfold Qeq;rw[QwS (Qos hst.lim _) hst.refP];refine⟨replicate x.Xa.length 0,by simp,λz hz=>by rw[(mem_replicate.1 hz).2];omega,λy hy=>?_,λa b _ hp=>?_,λk k0 k1 hE=>?_⟩
   ·obtain⟨i,hi,hb⟩:=Qpb.1 hy;have:i∈setL (nLim x) m:=QgB.2 ⟨(Zg.1 hi).1,hb⟩;rw[ZU h1] at this;cases this
   ·exfalso;have:nth (replicate x.Xa.length 0) a=0:=by
     unfold nth;rw[Zi,getElem?_replicate];split<;>rfl
    omega
   ·unfold nth;rw[Zi,getElem?_replicate];split<;>rfl
  rw[h.bad] at hp;cases hp
 ·exact h0
def Qzc (h:QeW x=false):∃K m,BadM x K m/\QbR x K m<=nLim x+(Qao x).length\/16<nLim x:=by
 by_cases h16:nLim x<=16
 ·obtain⟨K,k1,k2⟩:=Qkm (λk=>!(cyc x k).isEmpty) x.Xa.length;obtain⟨m,m1,m2⟩:=Qkm (λ_=>true) (nLim x);refine⟨K,m,.inl ⟨⟨⟨k1,λk hk hb e=>?_⟩,m1,?_⟩,?_⟩⟩
  ·rw[k2 k hk,e] at hb;cases hb
  ·rw[<-h];unfold Qeq QeW;rw[Ql8 (p:=λi=>m.testBit i) (q:=λ_=>true) (λi hi=>m2 i hi)];refine Qm0 λk hk=>?_;rw[Zv,k2 k hk];rfl
  ·unfold QbR;have h1:=QCK hc K;rw[<-Qfy _ _ h16 m1];have h2:=length_filter_le (λi=>m.testBit i) (range (nLim x));rw[ZX] at h2;unfold setL;omega
 ·exact⟨0,0,.inr (by omega)⟩
end
def nAll (x:Qb):Nat:=nLim x+(Qao x).length
def QiZ (x:Qb) (K:Nat) (R:List Nat) (s:List Nat) (m:Nat):List Nat⊕List Nat:=
 if (!s.isEmpty&&decide (R.length+ones m>=s.length))||decide (R.length+ones m>nAll x) then .inr s
 else if Qeq x m K=true then .inl s else .inr (setL (nLim x) m++R.map λc=>nLim x+c)
def goZ (f:List Nat->Nat->List Nat⊕List Nat):List Nat->List Nat->List Nat
 | [],s=>s
 | m::l,s=>match f s m with | .inl s'=>goZ f l s' | .inr s'=>s'
def QrT {x:Qb} (h16:nLim x<=16) {K:Nat} (hg:QjQ x K):∀(l:List Nat),l.Pairwise (λa b=>ones a<=ones b)->(∀m∈l,m<2 ^ nLim x)->∀s:List Nat,
  (goZ (QiZ x K (recS x K)) l s=s/\∀m∈l,Qeq x m K=false->QbR x K m<=nAll x->s≠[]/\s.length<=QbR x K m)\/
  (∃m∈l,goZ (QiZ x K (recS x K)) l s=wOf x K m/\Qeq x m K=false/\QbR x K m<=nAll x/\(s=[]\/QbR x K m<s.length)/\∀m'∈l,Qeq x m' K=false->QbR x K m<=QbR x K m')
 | [],_,_,s=>.inl ⟨rfl,λm hm=>by cases hm⟩
 | m::l,hp,hl,s=>by
  obtain⟨hp1,hp2⟩:=pairwise_cons.1 hp;have hsz:∀m'∈m::l,ones m<=ones m':=λm' hm'=>by
   rcases Zo.1 hm' with rfl | hm'
   ·exact ZB _
   ·exact hp1 m' hm'
  unfold goZ QiZ;by_cases hstop:((!s.isEmpty&&decide ((recS x K).length+ones m>=s.length))||decide ((recS x K).length+ones m>nAll x))=true
  ·rw[Zc hstop];refine .inl ⟨rfl,λm' hm' _ hle=>?_⟩;have:=hsz m' hm';unfold QbR at hle ⊢;simp only[ZA,Zf,Zk,Ym,isEmpty_eq_false_iff] at hstop;rcases hstop with⟨h1,h2⟩ | h1
   ·exact⟨h1,by omega⟩
   ·omega
  ·rw[Zd hstop];simp only[ZA,Zf,Zk,Ym,isEmpty_eq_false_iff,not_or,not_and] at hstop
   cases hpm:Qeq x m K with
   | true=>
    rw[Zc rfl];dsimp only;rcases QrT h16 hg l hp2 (λm hm=>hl m (Zq _ hm)) s with⟨h1,h2⟩ | ⟨m1,hm1,h1,h2,h3,h4,h5⟩
    ·refine .inl ⟨h1,λm' hm' hb hle=>?_⟩;rcases Zo.1 hm' with rfl | hm'
     ·rw[hpm] at hb;cases hb
     ·exact h2 m' hm' hb hle
    ·refine .inr ⟨m1,Zq _ hm1,h1,h2,h3,h4,λm' hm' hb=>?_⟩;rcases Zo.1 hm' with rfl | hm'
     ·rw[hpm] at hb;cases hb
     ·exact h5 m' hm' hb
   | false=>
    rw[Zd (by simp)];refine .inr ⟨m,Zn ..,rfl,hpm,?_,?_,λm' hm' _=>?_⟩
    ·unfold QbR;omega
    ·by_cases hs:s=[]
     ·exact .inl hs
     ·have:=hstop.1 hs;refine .inr ?_;unfold QbR;omega
    ·have:=hsz m' hm';unfold QbR;omega
def recP (x:Qb) (K:Nat):List Nat:=(range x.Xa.length).foldl (λacc k=>if K.testBit k=true then (if (cyc x k).isEmpty then replicate (nAll x+1) 0 else acc++cyc x k) else acc) []
def QpW {x:Qb} {K:Nat} (h:∀k,k<x.Xa.length->K.testBit k=true->cyc x k≠[]):recP x K=recS x K:=by
 have key:∀n,n<=x.Xa.length->(range n).foldl (λacc k=>if K.testBit k=true then (if (cyc x k).isEmpty then replicate (nAll x+1) 0 else acc++cyc x k) else acc) []=(range n).flatMap λk=>if K.testBit k=true then cyc x k else []:=by
  intro n
  induction n with
  | zero=>intro _;rfl
  | succ n ih=>
   intro hn;rw[Yl,foldl_append,ZQ,ih (by omega),Yu];simp only[foldl_cons,foldl_nil];by_cases hb:K.testBit n=true
   ·rw[Zc hb,Zc hb];have:=h n (by omega) hb;rw[Zd (by simpa using this)]
   ·rw[Zd hb,Zd hb,Yj]
 exact key _ (ZB _)
def QrU {x:Qb} {K k0:Nat} (h0:k0<x.Xa.length) (hb:K.testBit k0=true) (he:cyc x k0=[]):nAll x<(recP x K).length:=by
 have key:∀n,k0<n->nAll x<((range n).foldl (λacc k=>if K.testBit k=true then (if (cyc x k).isEmpty then replicate (nAll x+1) 0 else acc++cyc x k) else acc) []).length:=by
  intro n
  induction n with
  | zero=>intro h;omega
  | succ n ih=>
   intro hn;rw[Yl,foldl_append];simp only[foldl_cons,foldl_nil];by_cases hk:n=k0
   ·subst hk;rw[Zc hb,he,Zc (show ([]:List Nat).isEmpty=true from rfl),Yq];omega
   ·have:=ih (by omega);split
    ·split
     ·rw[Yq];omega
     ·rw[Ze];omega
    ·exact this
 exact key _ h0
def Qzd {x:Qb} (hc:Q0 x=[]) (K:Nat):(recP x K).length<=nAll x+1+200:=by
 have hn:=(Qan hc).kinds;have key:∀n,n<=x.Xa.length->((range n).foldl (λacc k=>if K.testBit k=true then (if (cyc x k).isEmpty then replicate (nAll x+1) 0 else acc++cyc x k) else acc) []).length<=nAll x+1+n * 12:=by
  intro n
  induction n with
  | zero=>intro _;simp
  | succ n ih=>
   intro hn;have:=ih (by omega);rw[Yl,foldl_append];simp only[foldl_cons,foldl_nil];split
   ·split
    ·rw[Yq];omega
    ·have h12:(cyc x n).length<=12:=by unfold cyc;rw[QmH];exact (Qot hc (by omega) (by omega) _).1
     rw[Ze];omega
   ·omega
 have:=key _ (ZB _);unfold recP;omega
def goK (x:Qb) (s:List Nat) (K:Nat):List Nat:=goZ (QiZ x K (recP x K)) (QdW (nLim x)) s
def QCM {x:Qb} {K:Nat} (hg:¬QjQ x K) (hlt:K<2 ^ x.Xa.length) (s:List Nat):goK x s K=s:=by
 have:∃k,k<x.Xa.length/\K.testBit k=true/\cyc x k=[]:=Classical.byContradiction λhn=>hg ⟨hlt,λk hk hb he=>hn ⟨k,hk,hb,he⟩⟩;obtain⟨k,hk,hb,he⟩:=this;have hl:=QrU hk hb he;unfold goK
 cases hs:QdW (nLim x) with
 | nil=>rfl
 | cons m l=>unfold goZ QiZ;rw[Zc (by simp;omega)]
structure Qi0 (x:Qb) (P:List Nat) (s:List Nat):Prop where
 none:s=[]->∀K∈P,∀m,BadM x K m->nAll x<QbR x K m
 some:s≠[]->∃K m,BadM x K m/\s=wOf x K m/\QbR x K m<=nAll x/\∀K'∈P,∀m',BadM x K' m'->QbR x K m<=QbR x K' m'
def QrV {x:Qb} (hc:Q0 x=[]) (h16:nLim x<=16) {P s:List Nat} (h:Qi0 x P s) {K:Nat} (hK:K<2 ^ x.Xa.length):Qi0 x (P++[K]) (goK x s K):=by
 by_cases hg:QjQ x K
 ·have hl:∀m∈QdW (nLim x),m<2 ^ nLim x:=λm hm=>(Qfo h16).1 hm;have hgo:goK x s K=goZ (QiZ x K (recS x K)) (QdW (nLim x)) s:=by unfold goK;rw[QpW hg.2]
  rw[hgo];rcases QrT h16 hg (QdW (nLim x)) (Qrh _) hl s with⟨h1,h2⟩ | ⟨m,hm,h1,h2,h3,h4,h5⟩
  ·rw[h1];refine⟨λhs K' hK' m hb=>?_,λhs=>?_⟩
   ·rcases Zs.1 hK' with hK' | hK'
    ·exact h.none hs K' hK' m hb
    ·obtain rfl:=Zh.1 hK';rcases Nat.lt_or_ge (nAll x) (QbR x K' m) with hlt | hle
     ·exact hlt
     ·exact absurd hs (h2 m ((Qfo h16).2 hb.lt) hb.bad hle).1
   ·obtain⟨K1,m1,b1,b2,b3,b4⟩:=h.some hs;refine⟨K1,m1,b1,b2,b3,λK' hK' m' hb=>?_⟩;rcases Zs.1 hK' with hK' | hK'
    ·exact b4 K' hK' m' hb
    ·obtain rfl:=Zh.1 hK';rcases Nat.lt_or_ge (nAll x) (QbR x K' m') with hlt | hle
     ·omega
     ·have:=(h2 m' ((Qfo h16).2 hb.lt) hb.bad hle).2;rw[b2,QmI h16 b1.lt] at this;exact this
  ·have hbad:BadM x K m:=⟨hg,hl m hm,h2⟩;have hlen:=QmI (x:=x) (K:=K) h16 hbad.lt;have hpos:=QrS hc h16 hbad;rw[h1];refine⟨λhs=>?_,λhs=>⟨K,m,hbad,rfl,h3,λK' hK' m' hb=>?_⟩⟩
   ·rw[hs] at hlen;simp at hlen;omega
   ·rcases Zs.1 hK' with hK' | hK'
    ·rcases h4 with h4 | h4
     ·have:=h.none h4 K' hK' m' hb;omega
     ·obtain⟨K1,m1,b1,b2,b3,b4⟩:=h.some (λe=>by rw[e] at h4;simp at h4);have:=b4 K' hK' m' hb;rw[b2,QmI h16 b1.lt] at h4;omega
    ·obtain rfl:=Zh.1 hK';exact h5 m' ((Qfo h16).2 hb.lt) hb.bad
 ·rw[QCM hg hK];refine⟨λhs K' hK' m hb=>?_,λhs=>?_⟩
  ·rcases Zs.1 hK' with hK' | hK'
   ·exact h.none hs K' hK' m hb
   ·obtain rfl:=Zh.1 hK';exact absurd hb.good hg
  ·obtain⟨K1,m1,b1,b2,b3,b4⟩:=h.some hs;refine⟨K1,m1,b1,b2,b3,λK' hK' m' hb=>?_⟩;rcases Zs.1 hK' with hK' | hK'
   ·exact b4 K' hK' m' hb
   ·obtain rfl:=Zh.1 hK';exact absurd hb.good hg
def QdF (x:Qb):List Nat:=(QdW x.Xa.length).foldl (goK x) []
def QpX {x:Qb} (hc:Q0 x=[]) (h16:nLim x<=16):∀(l P s:List Nat),(∀K∈l,K<2 ^ x.Xa.length)->Qi0 x P s->Qi0 x (P++l) (l.foldl (goK x) s)
 | [],P,s,_,h=>by rw[Yj];exact h
 | K::l,P,s,hl,h=>by have:=QpX hc h16 l (P++[K]) (goK x s K) (λK hK=>hl K (Zq _ hK)) (QrV hc h16 h (hl K (Zn ..)));rw[ZF] at this;exact this
def QrW {x:Qb} (hc:Q0 x=[]) (h16:nLim x<=16) (hb:QeW x=false):∃K m,MinM x K m/\QdF x=wOf x K m/\QbR x K m<=nAll x:=by
 have hk6:=(Qan hc).kinds;have hB:Qi0 x (QdW x.Xa.length) (QdF x):=by
  have:=QpX hc h16 (QdW x.Xa.length) [] [] (λK hK=>(Qfo (by omega)).1 hK) ⟨λ_ K hK=>(by cases hK),λh=>absurd rfl h⟩
  rwa [Yf] at this
 have hall:∀K m,BadM x K m->K∈QdW x.Xa.length:=λK m h=>(Qfo (by omega)).2 h.good.1;have hne:QdF x≠[]:=λe=>by
  obtain⟨K,m,h | h⟩:=Qzc hc hb
  ·have:=hB.none e K (hall K m h.1) m h.1;have:=h.2;unfold nAll at *;omega
  ·omega
 obtain⟨K,m,h1,h2,h3,h4⟩:=hB.some hne;exact⟨K,m,⟨h1,λK' m' hb=>h4 K' (hall K' m' hb) m' hb⟩,h2,h3⟩
def Qi0.len {x:Qb} (h16:nLim x<=16) {P s:List Nat} (h:Qi0 x P s):s.length<=nAll x:=by
 by_cases e:s=[]
 ·rw[e];simp
 ·obtain⟨K,m,h1,h2,h3,_⟩:=h.some e;rw[h2,QmI h16 h1.lt];exact h3
def Qh3 {x:Qb} (hc:Q0 x=[]):nAll x<=300:=by have hv:=Qan hc;have h1:=Qfr hv;have h2:=Qjt hv;rw[Qhq] at h2;unfold nAll;omega
def Qjz (s:List Nat):(ints s).isEmpty=s.isEmpty:=by unfold ints;cases s<;>rfl
def Qb5 (s:List Nat):(ints s).length=s.length:=by unfold ints;simp
def QrX (a b:List Nat):ints (a++b)=ints a++ints b:=by unfold ints;simp
def cycs (x:Qb):List (List Int):=(range x.Xa.length).map λk=>ints (cyc x k)
def QrY {x:Qb} {k:Nat} (hk:k<x.Xa.length):idx (cycs x) (k:Int)=some (ints (cyc x k)):=by rw[QG (by unfold cycs;simpa using hk)];unfold cycs;simp
def Qmb {n:Nat} (h:n<=16) {m:Nat} (hm:m<2 ^ n):m<2 ^ 64:=ZV hm (Nat.pow_le_pow_right (by omega) (by omega))
def Qze {x:Qb} (hc:Q0 x=[]) {K:Nat} (hK:K<2 ^ x.Xa.length) {names:List Str} (hn:names.length=nAll x):
  (Ql (λ(s1114:Int×List Int)=>((if (decide (s1114.1<((x).Xa.length:Int)))=true then (nn s1114.1).bind λ_=>((if ((iand .u64 (ishr .u64 (K:Int) s1114.1) (1:Int))==(1:Int))=true then (idx (cycs x) s1114.1).bind λt73=>(rm (s1114.2.length+t73.length)).bind λ_=>(idx (cycs x) s1114.1).bind λt78=>((if (t78.isEmpty)=true then (mk (i64.wrap ((names.length:Int)+(1:Int))) (0:Int)).bind λt84=>(some t84) else (some (s1114.2++t73)))).bind λ(p1631:List Int)=>(some p1631) else (some s1114.2))).bind λ(p1618:List Int)=>(some (.inl ((i64.wrap (s1114.1+(1:Int))),p1618))) else (some (.inr s1114.2))):Option ((Int×List Int)⊕((List Int))))) ((0:Int),([]:List Int)))=some (ints (recP x K)):=by
 have hk6:=(Qan hc).kinds;have h300:=Qh3 hc
 let g:List Nat->Nat->List Nat:=λacc k=>if K.testBit k=true then (if (cyc x k).isEmpty then replicate (nAll x+1) 0 else acc++cyc x k) else acc
 have hl:∀n,n<=x.Xa.length->((range n).foldl g []).length<=301+n * 12:=by
  intro n
  induction n with
  | zero=>intro _;simp
  | succ n ih=>
   intro hn;have:=ih (by omega);rw[Yl,foldl_append];simp only[foldl_cons,foldl_nil];show (if K.testBit n=true then (if (cyc x n).isEmpty then replicate (nAll x+1) 0 else (range n).foldl g []++cyc x n) else (range n).foldl g []).length<=_;split
   ·split
    ·rw[Yq];omega
    ·have h12:(cyc x n).length<=12:=by unfold cyc;rw[QmH];exact (Qot hc (by omega) (by omega) _).1
     rw[Ze];omega
   ·omega
 refine (Qb9 x.Xa.length (λn=>((n:Int),ints ((range n).foldl g []))) (ints (recP x K)) (λk hk=>?_) ?_)
 ·have hlk:=hl k (by omega);dsimp only;rw[Zc (by simpa using hk),show nn (k:Int)=some () by unfold nn;rw[Zc (by omega)]];simp only[Za];rw[Qoa (Qmb (by omega) hK) (by omega),Qw hk (by omega),Yl,foldl_append];simp only[foldl_cons,foldl_nil];show _=some (Sum.inl (_,ints (if K.testBit k=true then (if (cyc x k).isEmpty then replicate (nAll x+1) 0 else (range k).foldl g []++cyc x k) else (range k).foldl g [])))
  cases hb:K.testBit k with
  | false=>rfl
  | true=>
   have h12:(cyc x k).length<=12:=by unfold cyc;rw[QmH];exact (Qot hc (by omega) (by omega) _).1
   rw[Zc rfl,Zc rfl,QrY hk];simp only[Za];rw[QaW (by rw[Qb5,Qb5];omega)];simp only[Za];rw[Qjz]
   cases he:(cyc x k).isEmpty with
   | false=>simp[QrX]
   | true=>rw[Zc rfl,Zc rfl,hn,w64 (by omega) (by omega),show ((nAll x:Nat):Int)+1=((nAll x+1:Nat):Int) by omega,Qis _ _ (by omega)];simp only[Za];unfold ints;rw[map_replicate];rfl
 ·dsimp only;rw[Zd (by simp)];rfl
def QCN {x:Qb} (h16:nLim x<=16) {m:Nat} (hm:m<2 ^ nLim x):
  (Ql (λ(s1551:Int×List Int)=>((if (decide (s1551.1<((Qbq x).Xo.length:Int)))=true then (nn s1551.1).bind λ_=>((if ((iand .u64 (ishr .u64 (m:Int) s1551.1) (1:Int))==(1:Int))=true then (rm (s1551.2.length+[s1551.1].length)).bind λ_=>(some (s1551.2++[s1551.1])) else (some s1551.2))).bind λ(p1605:List Int)=>(some (.inl ((i64.wrap (s1551.1+(1:Int))),p1605))) else (some (.inr s1551.2))):Option ((Int×List Int)⊕((List Int))))) ((0:Int),([]:List Int)))=some (ints (setL (nLim x) m)):=by
 have hlen:(Qbq x).Xo.length=nLim x:=rfl;rw[hlen];refine (QmG (range (nLim x)) (λi=>m.testBit i) (λ(i:Nat)=>(i:Int)) (λk hk acc ha=>?_) (λacc=>by rw[ZX];dsimp only;rw[Zd (by simp)])).trans rfl;rw[ZX] at hk;dsimp only;rw[Zc (by simpa using hk),show nn (k:Int)=some () by unfold nn;rw[Zc (by omega)]];simp only[Za];rw[Qoa (Qmb h16 hm) (by omega),Qw hk (by omega),getElem_range]
 cases m.testBit k with
 | false=>rfl
 | true=>rw[Zc rfl,Zc rfl,QaW (by simp;omega)];rfl
def Qxg {Y:List Int->Int->Option (List Int⊕List Int)} {f:List Nat->Nat->List Nat⊕List Nat}:∀{l:List Nat} (_:∀m∈l,∀s,s.length<=1000->(∀s',f s m=.inl s'->Y (ints s) (m:Int)=some (.inl (ints s')))/\(∀s',f s m=.inr s'->Y (ints s) (m:Int)=some (.inr (ints s')))) (_:∀m∈l,∀s s',s.length<=1000->f s m=.inl s'->s'.length<=1000) (s:List Nat),s.length<=1000->
  goS Y l (ints s)=some (.inl (ints (goZ f l s)))\/goS Y l (ints s)=some (.inr (ints (goZ f l s)))
 | [],_,_,s,_=>.inl rfl
 | m::l,h,h2,s,hs=>by
  obtain⟨h3,h4⟩:=h m (Zn ..) s hs;rw[QhX];unfold goZ
  cases hf:f s m with
  | inl s'=>rw[h3 s' hf];exact Qxg (λm hm=>h m (Zq _ hm)) (λm hm=>h2 m (Zq _ hm)) s' (h2 m (Zn ..) s s' hs hf)
  | inr s'=>rw[h4 s' hf];exact .inr rfl
def Qzf {x:Qb} (hc:Q0 x=[]) {R A:List Nat} (hR:∀c∈R,c<=1000) (hl:R.length<=1000) (hA:A.length<=1000):
  (Ql (λ(s1578:Int×List Int)=>((if (decide (s1578.1<((ints R).length:Int)))=true then (idx (ints R) s1578.1).bind λt138=>(rm (s1578.2.length+[(i64.wrap (((Qbq x).Xo.length:Int)+t138))].length)).bind λ_=>(some (.inl ((i64.wrap (s1578.1+(1:Int))),(s1578.2++[(i64.wrap (((Qbq x).Xo.length:Int)+t138))])))) else (some (.inr s1578.2))):Option ((Int×List Int)⊕((List Int))))) ((0:Int),ints A))=some (ints (A++R.map λc=>nLim x+c)):=by
 have hlen:(Qbq x).Xo.length=nLim x:=rfl;have h300:=Qh3 hc;rw[hlen];refine (Qb9 R.length (λn=>((n:Int),ints (A++(R.take n).map λc=>nLim x+c))) (ints (A++R.map λc=>nLim x+c)) (λk hk=>?_) ?_) |>.trans rfl |> λh=>by simpa using h
 ·have hcm:=hR _ (Zm hk);have e1:(ints R)[k]'(by rw[Qb5];exact hk)=((R[k]:Nat):Int):=by simp[ints]
  dsimp only;unfold nAll at h300;rw[Qb5,Zc (by simpa using hk),QG (by rw[Qb5];exact hk),e1];simp only[Za];rw[QaW (by rw[Qb5];simp;omega),Qw hk (by omega),w64 (by omega) (by omega)];simp only[Za];have e2:ints (A++(R.take (k+1)).map λc=>nLim x+c)=ints (A++(R.take k).map λc=>nLim x+c)++[(nLim x:Int)+(R[k]:Int)]:=by rw[Zy hk,ZM,<-ZF,QrX (A++(R.take k).map λc=>nLim x+c)];simp[ints]
  rw[e2]
 ·dsimp only;rw[Qb5,Zd (by simp),take_length]
def Qxh {x:Qb} (hc:Q0 x=[]) (h16:nLim x<=16) {K:Nat} (hK:K<2 ^ x.Xa.length) {names:List Str} (hn:names.length=nAll x) {s:List Nat} (hs:s.length<=1000):
  goS (λ(s1393:List Int) (m1394:Int)=>((Qcp m1394).bind λt96=>(if (((!s1393.isEmpty)&&(decide ((i64.wrap (((ints (recP x K)).length:Int)+t96))>=(s1393.length:Int))))||(decide ((i64.wrap (((ints (recP x K)).length:Int)+t96))>(names.length:Int))))=true then (some (.inr s1393)) else (QaH (Qbq x) (λx0=>QeO x0 m1394) (λx0=>QeP x0 (K:Int))).bind λt115=>(if t115=true then (some (.inl s1393)) else (Ql (λ(s1551:Int×List Int)=>((if (decide (s1551.1<((Qbq x).Xo.length:Int)))=true then (nn s1551.1).bind λ_=>((if ((iand .u64 (ishr .u64 m1394 s1551.1) (1:Int))==(1:Int))=true then (rm (s1551.2.length+[s1551.1].length)).bind λ_=>(some (s1551.2++[s1551.1])) else (some s1551.2))).bind λ(p1605:List Int)=>(some (.inl ((i64.wrap (s1551.1+(1:Int))),p1605))) else (some (.inr s1551.2))):Option ((Int×List Int)⊕((List Int))))) ((0:Int),([]:List Int))).bind λ(p1574:(List Int))=>(Ql (λ(s1578:Int×List Int)=>((if (decide (s1578.1<((ints (recP x K)).length:Int)))=true then (idx (ints (recP x K)) s1578.1).bind λt138=>(rm (s1578.2.length+[(i64.wrap (((Qbq x).Xo.length:Int)+t138))].length)).bind λ_=>(some (.inl ((i64.wrap (s1578.1+(1:Int))),(s1578.2++[(i64.wrap (((Qbq x).Xo.length:Int)+t138))])))) else (some (.inr s1578.2))):Option ((Int×List Int)⊕((List Int))))) ((0:Int),p1574)).bind λ(p1591:(List Int))=>(some (.inr p1591)))):Option ((List Int)⊕(List Int)))) (QdW (nLim x)) (ints s)=some (.inl (ints (goK x s K)))\/
  goS (λ(s1393:List Int) (m1394:Int)=>((Qcp m1394).bind λt96=>(if (((!s1393.isEmpty)&&(decide ((i64.wrap (((ints (recP x K)).length:Int)+t96))>=(s1393.length:Int))))||(decide ((i64.wrap (((ints (recP x K)).length:Int)+t96))>(names.length:Int))))=true then (some (.inr s1393)) else (QaH (Qbq x) (λx0=>QeO x0 m1394) (λx0=>QeP x0 (K:Int))).bind λt115=>(if t115=true then (some (.inl s1393)) else (Ql (λ(s1551:Int×List Int)=>((if (decide (s1551.1<((Qbq x).Xo.length:Int)))=true then (nn s1551.1).bind λ_=>((if ((iand .u64 (ishr .u64 m1394 s1551.1) (1:Int))==(1:Int))=true then (rm (s1551.2.length+[s1551.1].length)).bind λ_=>(some (s1551.2++[s1551.1])) else (some s1551.2))).bind λ(p1605:List Int)=>(some (.inl ((i64.wrap (s1551.1+(1:Int))),p1605))) else (some (.inr s1551.2))):Option ((Int×List Int)⊕((List Int))))) ((0:Int),([]:List Int))).bind λ(p1574:(List Int))=>(Ql (λ(s1578:Int×List Int)=>((if (decide (s1578.1<((ints (recP x K)).length:Int)))=true then (idx (ints (recP x K)) s1578.1).bind λt138=>(rm (s1578.2.length+[(i64.wrap (((Qbq x).Xo.length:Int)+t138))].length)).bind λ_=>(some (.inl ((i64.wrap (s1578.1+(1:Int))),(s1578.2++[(i64.wrap (((Qbq x).Xo.length:Int)+t138))])))) else (some (.inr s1578.2))):Option ((Int×List Int)⊕((List Int))))) ((0:Int),p1574)).bind λ(p1591:(List Int))=>(some (.inr p1591)))):Option ((List Int)⊕(List Int)))) (QdW (nLim x)) (ints s)=some (.inr (ints (goK x s K))):=by
 have hk6:=(Qan hc).kinds;have h300:=Qh3 hc;have hrl:=Qzd hc K;unfold goK;refine Qxg (f:=QiZ x K (recP x K)) (λm hm s hs=>?_) (λm hm s s' hs h=>?_) s hs
 ·have hm2:=(Qfo h16).1 hm;have hones:ones m<=16:=by
   rw[<-Qfy _ _ h16 hm2];have:=length_filter_le (λi=>m.testBit i) (range (nLim x));rw[ZX] at this;unfold setL;omega
  have hcond:((!(ints s).isEmpty)&&(decide ((i64.wrap (((ints (recP x K)).length:Int)+((ones m:Nat):Int)))>=((ints s).length:Int))))=(!s.isEmpty&&decide ((recP x K).length+ones m>=s.length)):=by rw[Qjz,Qb5,Qb5,w64 (by omega) (by omega)];congr 1;rw[ZY];simp;omega
  have hcond2:decide ((i64.wrap (((ints (recP x K)).length:Int)+((ones m:Nat):Int)))>(names.length:Int))=decide ((recP x K).length+ones m>nAll x):=by rw[Qb5,w64 (by omega) (by omega),hn,ZY];simp;omega
  have hposs:QaH (Qbq x) (λx0=>QeO x0 (m:Int)) (λx0=>QeP x0 (K:Int))=some (Qeq x m K):=by
   refine (Qj2 (s:=Qbq x) (n:=x.Xa.length) rfl (QjP hc) (p:=λi=>m.testBit i) (E:=λk=>K.testBit k.toNat) (λi hi=>?_) (λk hk=>?_)).trans rfl
   ·have hi:i<nLim x:=hi;unfold QeO;rw[show nn (i:Int)=some () by unfold nn;rw[Zc (by omega)]];simp only[Za];rw[Qoa (Qmb h16 hm2) (by omega)]
   ·unfold QeP;rw[show nn (k:Int)=some () by unfold nn;rw[Zc (by omega)]];simp only[Za];rw[Qoa (Qmb (by omega) hK) (by omega),Zv]
  rw[Qtl (Qmb h16 hm2)];simp only[Za];rw[hcond,hcond2];unfold QiZ;by_cases hstop:((!s.isEmpty&&decide ((recP x K).length+ones m>=s.length))||decide ((recP x K).length+ones m>nAll x))=true
  ·rw[Zc hstop,Zc hstop];exact⟨λs' h=>(nomatch h),λs' h=>by obtain rfl:=Sum.inr.inj h;rfl⟩
  ·rw[Zd hstop,Zd hstop,hposs];simp only[Za]
   cases hpm:Qeq x m K with
   | true=>rw[Zc rfl,Zc rfl];exact⟨λs' h=>by obtain rfl:=Sum.inl.inj h;rfl,λs' h=>(nomatch h)⟩
   | false=>
    have hf:¬(false=true):=by decide
    rw[Zd hf,Zd hf,QCN h16 hm2];simp only[Za];have hgood:QjQ x K:=by refine Classical.byContradiction λhg=>?_;have:∃k,k<x.Xa.length/\K.testBit k=true/\cyc x k=[]:=Classical.byContradiction λhn=>hg ⟨hK,λk hk hb he=>hn ⟨k,hk,hb,he⟩⟩;obtain⟨k,hk,hb,he⟩:=this;have:=QrU hk hb he;apply hstop;simp;omega
    have hrec:=QpW hgood.2;have h1:∀c∈recP x K,c<=1000:=λc hcm=>by rw[hrec] at hcm;have:=QrR hc hcm;unfold nAll at h300;omega
    have h2:(setL (nLim x) m).length<=1000:=by rw[Qfy _ _ h16 hm2];omega
    rw[Qzf hc h1 (by omega) h2];exact⟨λs' h=>(nomatch h),λs' h=>by obtain rfl:=Sum.inr.inj h;rfl⟩
 ·unfold QiZ at h;split at h
  ·cases h
  ·split at h
   ·obtain rfl:=Sum.inl.inj h;exact hs
   ·cases h
def QrZ {x:Qb} (hc:Q0 x=[]) (h16:nLim x<=16) {Y:List Int->Int->Option (List Int⊕List Int)} (hY:∀K:Nat,K<2 ^ x.Xa.length->∀s:List Nat,s.length<=1000->Y (ints s) (K:Int)=some (.inl (ints (goK x s K)))):
  ∀(l P s:List Nat),(∀K∈l,K<2 ^ x.Xa.length)->Qi0 x P s->goS Y l (ints s)=some (.inl (ints (l.foldl (goK x) s)))
 | [],_,_,_,_=>rfl
 | K::l,P,s,hl,h=>by have h300:=Qh3 hc;have hlen:=h.len h16;have hK:=hl K (Zn ..);rw[QhX,hY K hK s (by omega)];exact QrZ hc h16 hY l (P++[K]) _ (λK hK=>hl K (Zq _ hK)) (QrV hc h16 h hK)
def whyJ (x:Qb):List Nat:=(Qbp (ints (QdF x))).map Int.toNat
def QjS (x:Qb):ints (whyJ x)=Qbp (ints (QdF x)):=by
 unfold whyJ ints;rw[Yw];have:∀z∈Qbp (ints (QdF x)),((λ(i:Nat)=>(i:Int)) ∘ Int.toNat) z=z:=λz hz=>by have:=(QgA (ints (QdF x))).mem_iff.1 hz;unfold ints at this;obtain⟨i,_,rfl⟩:=ZE.1 this;rfl
 refine (map_congr_left this).trans ?_;rw[map_id'];rfl
def Qr0 {x:Qb} {i:Nat}:i∈whyJ x↔i∈QdF x:=by
 have h:∀(l:List Nat) (i:Nat),(i:Int)∈ints l↔i∈l:=λl i=>by
  unfold ints;rw[ZE];constructor
  ·rintro ⟨j,hj,e⟩;have:j=i:=by omega
   rw[<-this];exact hj
  ·exact λh=>⟨i,h,rfl⟩
 rw[<-h (whyJ x),QjS,(QgA _).mem_iff,h]
def Qnr {x:Qb}:(whyJ x).length=(QdF x).length:=by have:=(QgA (ints (QdF x))).length_eq;rw[<-QjS,Qb5,Qb5] at this;exact this
def QsG {x:Qb} (hn:(QdF x).Nodup):(whyJ x).Pairwise (·< ·):=by
 have h1:=Qki (ints (QdF x));have h2:(ints (QdF x)).Nodup:=by unfold ints;show Pairwise _ _;rw[pairwise_map];exact hn.imp λh e=>h (by omega)
 have h3:(Qbp (ints (QdF x))).Nodup:=(QgA _).nodup_iff.2 h2;have h4:(Qbp (ints (QdF x))).Pairwise (λa b=>a<b):=(Pairwise.and h1 h3).imp λ⟨a,b⟩=>by omega
 rw[<-QjS] at h4;unfold ints at h4;rw[pairwise_map] at h4;exact h4.imp λh=>by omega
def whyR (x:Qb):List Str×Int:=match Q0 x with
 | p::_=>([],p.Code)
 | []=>if nLim x>16 then ([],4) else if QeW x=true then ([],6) else ((whyJ x).map (Qa7 x),0)
def Qr1 {x:Qb} (hs:QcZ x):Qgu x=some (whyR x):=by
 unfold Qgu whyR;rw[Qru hs];unfold QhH
 cases hc:Q0 x with
 | cons p l=>have:=Qhm (x:=x) (p:=p) (by rw[hc];exact Zn ..);dsimp only[Option.bind_some];rw[Zc (by simpa using this)]
 | nil=>
  have hv:=Qan hc;have hk6:=hv.kinds;have h300:=Qh3 hc;dsimp only[Option.bind_some];rw[Zd (by simp),Qrx hs hc];simp only[Za];have hlen:(Qbq x).Xo.length=nLim x:=rfl;by_cases h16:nLim x>16
  ·rw[Zc (decide_eq_true (by rw[hlen];omega)),Zc h16]
  ·rw[Zd (by rw[hlen];simp;omega),Zd h16,Qis _ _ (by omega)];simp only[Za];refine QdK x.Xa.length (λn=>((n:Int),((range n).map λk=>ints (cyc x k))++replicate (x.Xa.length - n) ([]:List Int))) (cycs x) (by simp) (λn hn'=>?_) ?_ ?_
   ·have hln:(((range n).map λk=>ints (cyc x k))++replicate (x.Xa.length - n) ([]:List Int)).length=x.Xa.length:=by simp;omega
    dsimp only;rw[Yq,Zc (by simpa using hn'),Qkl hc hn' (p:=λ_=>true) (λj _=>rfl)];simp only[Za];rw[Qgz (by rw[hln];exact hn')];simp only[Za];rw[Qw hn' (by omega),set_append_right _ _ (by simp)];congr 3;have e2:x.Xa.length - n=(x.Xa.length - (n+1))+1:=by omega
    rw[e2,replicate_succ,Zz,ZX,Nat.sub_self,set_cons_zero,Yl,ZM,ZF];rfl
   ·dsimp only;rw[Yq,Zd (by simp),Nat.sub_self,replicate_zero,Yj];rfl
   ·have hbase:QaH (Qbq x) (λx0=>Qiq x0) (λx0=>Qg0 x0 (cycs x))=some (QeW x):=by
     refine (Qj2 (s:=Qbq x) (n:=x.Xa.length) rfl (QjP hc) (p:=λ_=>true) (E:=λk=>!(cycN x k λ_=>true).isEmpty) (λi _=>rfl) (λk hk=>?_)).trans rfl;unfold Qg0;rw[QrY hk];simp only[Za];rw[Qjz];rfl
    rw[hbase];simp only[Za]
    cases hb:QeW x with
    | true=>rw[Zc rfl,Zc rfl]
    | false=>
     have hf:¬(false=true):=by decide
     rw[Zd hf,Zd hf,Qtn (by omega)];have hall:∀K∈QdW x.Xa.length,K<2 ^ x.Xa.length:=λK hK=>(Qfo (by omega)).1 hK;have hW0:Qi0 x [] []:=⟨λ_ K hK=>(by cases hK),λh=>absurd rfl h⟩;refine (ZH (Option.bind · _) (QrZ hc (by omega) (λK hK s hs=>?_) (QdW x.Xa.length) [] [] hall hW0)).trans ?_
     rotate_left
     ·simp only[Za];obtain⟨K,m,hmin,hbest,hsz⟩:=QrW hc (by omega) hb;have hlb:(QdF x).length<=300:=by rw[hbest,QmI (by omega) hmin.bad.lt];omega
      have hin:∀i∈whyJ x,i<nLim x+(Qao x).length:=λi hi=>by rw[Qr0,hbest] at hi;exact w_lt hc hi
      have e0:Qd8 (ints (foldl (goK x) [] (QdW x.Xa.length)))=some (ints (whyJ x)):=by
       unfold Qd8;rw[QjS];have:(ints (QdF x)).length<4611686018427387904:=by rw[Qb5];omega
       exact Zc this
      rw[e0];simp only[Za];rw[Qrg (ints (whyJ x)) (λi=>Qa7 x i.toNat) (λk hk acc ha=>?_) (λacc=>by rw[Zd (by simp)])]
      ·simp only[Za];congr 2;unfold ints;rw[Yw];rfl
      ·rw[Qb5] at hk;have e1:(ints (whyJ x))[k]'(by rw[Qb5];exact hk)=(((whyJ x)[k]:Nat):Int):=by simp[ints]
       have h3:=hin _ (Zm hk);have hwl:=Qnr (x:=x);dsimp only;rw[Qb5,Zc (by simpa using hk),QG (by rw[Qb5];exact hk),e1];simp only[Za];rw[QG (by rw[QgE];exact h3)];simp only[Za];rw[QaW (by simp;omega),Qw hk (by omega),Zv];simp only[Za];congr 4;unfold Qa7;rw[Zi,Zb (by rw[QgE];exact h3)];rfl
     ·rw[Qze hc hK (names:=QaA x) (QgE x)];simp only[Za];rw[Qtn (n:=(Qbq x).Xo.length) (by rw[hlen];omega)];rcases Qxh hc (by omega) hK (names:=QaA x) (QgE x) hs with h | h
      ·exact (ZH (λr=>(Option.bind r _).bind _) h).trans rfl
      ·exact (ZH (λr=>(Option.bind r _).bind _) h).trans rfl
def QmJ (x:Qb):Int×Int:=match Q0 x with
 | p::_=>(0,p.Code)
 | []=>if nLim x>16 then (0,4) else if QeW x=true then (0,6) else (((QdF x).length:Int),0)
def Qxi {n:Int} (h:-9999999<=n/\n<=9999999):(Lib.itoa n).length<=8:=by
 unfold Lib.itoa;split
 ·have:=QfA 6 n.natAbs (by omega);rw[Zj];omega
 ·have:=QfA 6 n.toNat (by omega);omega
def VT:AnyV->Prop
 | .int n=>-9999999<=n/\n<=9999999
 | .str s=>s.length<=12
def text_t {v:AnyV} (h:VT v):(QcY v).length<=12:=by
 cases v with
 | int n=>have:=Qxi h;show (Lib.itoa n).length<=12;omega
 | str s=>exact h
def toks_t {l:List AnyV} (h:∀v∈l,VT v):(toks l).length<=l.length * 13:=by
 induction l with
 | nil=>simp[toks]
 | cons v l ih=>have h1:=ih λu hu=>h u (Zq _ hu);have h2:=text_t (h v Zn);have e:toks (v::l)=(32::QcY v)++toks l:=rfl;rw[e,Ze,Zj,Zj];omega
def Qkn {w:Str} {l:List AnyV} (h:∀v∈l,VT v):(QdB w l).length<=w.length+1+l.length * 13:=by have:=toks_t h;unfold QdB;rw[Ze,Ze,length_singleton];omega
def Qfj {s:Str} (h:QK s=true):VT (.str s):=Qa5 h
def Qko {s:Str} (h:((s==[])||QK s)=true):VT (.str (QaL s)):=by
 unfold QaL;by_cases hs:s=[]
 ·rw[Zc hs];show ([45]:Str).length<=12;decide
 ·rw[Zd hs];have:QK s=true:=by simpa[hs] using h
  exact Qfj this
def QbU {n:Int} (h:-9999999<=n/\n<=9999999):VT (.int n):=h
def Qzg {f:Qc} (h:fieldS f=true) (hw3:f.Words.length<=3):(∀v∈Qaj f,VT v)/\(Qaj f).length<=8:=by
 unfold fieldS at h;simp only[Zf] at h;obtain⟨⟨hn,_⟩,hp⟩:=h;have hnv:=Qfj hn;unfold QbO at hp;by_cases c0:f.Xi=0
 ·rw[Zc c0] at hp;have e:Qaj f=[.str f.Xj,.int f.Lo]:=by unfold Qaj;rw[Zc c0]
  refine⟨?_,by rw[e];simp⟩;have:=Qa1 hp;rw[e];simp only[Zo,Zw,ZI,ZR,forall_eq];exact⟨hnv,QbU (by omega)⟩
 rw[Zd c0] at hp;by_cases c1:f.Xi=1
 ·rw[Zc c1] at hp;simp only[Zf] at hp;have e:Qaj f=[.str f.Xj,.str (QaL f.Of),.int f.Lo,.int f.Hi]:=by unfold Qaj;simp[c1]
  have:=Qbw hp.2;refine⟨?_,by rw[e];simp⟩;rw[e];simp only[Zo,Zw,ZI,ZR,forall_eq];exact⟨hnv,Qko (by rw[hp.1];simp),QbU (by omega),QbU (by omega)⟩
 rw[Zd c1] at hp;by_cases c2:f.Xi=2
 ·rw[Zc c2] at hp;have e:Qaj f=[.str f.Xj,.int f.Lo,.int f.Hi]:=by unfold Qaj;simp[c2]
  have:=Qbw hp;refine⟨?_,by rw[e];simp⟩;rw[e];simp only[Zo,Zw,ZI,ZR,forall_eq];exact⟨hnv,QbU (by omega),QbU (by omega)⟩
 rw[Zd c2] at hp;by_cases c3:f.Xi=3
 ·rw[Zc c3] at hp;simp only[Qg8,Zf,Zu,Yd] at hp;obtain⟨hg,⟨⟨hw,hl⟩,_⟩,hws⟩:=hp;have hw':=(Qa1 hw).2;have hl':f.Words.length=f.Xf.length:=by omega
  have e:Qaj f=[.str f.Xj,.int (f.Words.length:Int)]++(f.Words.zip f.Xf).flatMap λp=>[.str p.1,.int p.2]:=by unfold Qaj;simp[c3]
  refine⟨?_,?_⟩
  ·rw[e];intro v hv;rcases Zs.1 hv with hv | hv
   ·simp only[Zo,Zw,ZI] at hv;rcases hv with rfl | rfl
    ·exact hnv
    ·exact QbU (by omega)
   ·obtain⟨p,hp,hv⟩:=ZW.1 hv;obtain⟨a,b⟩:=p;have hz:=of_mem_zip hp;simp only[Zo,Zw,ZI] at hv;rcases hv with rfl | rfl
    ·exact Qfj (hws _ hz.1)
    ·have:=Qa1 (hg _ hz.2);exact QbU (by omega)
  ·rw[e,Ze,QlZ,length_zip];simp only[Zj,Zl];omega
 rw[Zd c3] at hp;by_cases c4:f.Xi=4
 ·rw[Zc c4] at hp;simp only[Zf] at hp;have e:Qaj f=[.str f.Xj,.str (QaL f.Of),.int f.Lo,.int f.Hi]:=by unfold Qaj;simp[c4]
  have:=Qbw hp.2;refine⟨?_,by rw[e];simp⟩;rw[e];simp only[Zo,Zw,ZI,ZR,forall_eq];exact⟨hnv,Qko hp.1,QbU (by omega),QbU (by omega)⟩
 rw[Zd c4] at hp;by_cases c5:f.Xi=5
 ·rw[Zc c5] at hp;simp only[Zf] at hp;have e:Qaj f=[.str f.Xj,.str (QaL f.Of),.int f.Lo,.int f.Hi]:=by unfold Qaj;simp[c5]
  have:=Qbw hp.2;refine⟨?_,by rw[e];simp⟩;rw[e];simp only[Zo,Zw,ZI,ZR,forall_eq];exact⟨hnv,Qko (by rw[hp.1];simp),QbU (by omega),QbU (by omega)⟩
 rw[Zd c5] at hp;by_cases c6:f.Xi=6
 ·rw[Zc c6] at hp;have e:Qaj f=[.str f.Xj,.str f.Of]:=by unfold Qaj;simp[c6]
  refine⟨?_,by rw[e];simp⟩;rw[e];simp only[Zo,Zw,ZI,ZR,forall_eq];exact⟨hnv,Qfj hp⟩
 rw[Zd c6] at hp;by_cases c7:f.Xi=7
 ·rw[Zc c7] at hp;simp only[Zf] at hp;have e:Qaj f=[.str f.Xj,.str f.Up,.str f.Of,.int f.Lo,.int f.Hi]:=by unfold Qaj;simp[c7]
  have:=Qbw hp.2;refine⟨?_,by rw[e];simp⟩;rw[e];simp only[Zo,Zw,ZI,ZR,forall_eq];exact⟨hnv,Qfj hp.1.2,Qfj hp.1.1,QbU (by omega),QbU (by omega)⟩
 rw[Zd c7] at hp;by_cases c8:f.Xi=8
 ·rw[Zc c8] at hp;simp only[Zf] at hp;have e:Qaj f=[.str f.Xj,.str f.Up,.str f.Of]:=by unfold Qaj;simp[c8]
  refine⟨?_,by rw[e];simp⟩;rw[e];simp only[Zo,Zw,ZI,ZR,forall_eq];exact⟨hnv,Qfj hp.2,Qfj hp.1⟩
 rw[Zd c8] at hp;cases hp
def QsH {f:Qc} (h:fieldS f=true) (hw:f.Words.length<=3):(QcW f).length<=115:=by obtain⟨h1,h2⟩:=Qzg h hw;have:=Qkn (w:=QjI f) h1;have:=(Ql0 (Qho h).kind).2.2;unfold QcW;omega
structure Tiny (x:Qb):Prop where
 kinds:x.Xa.length<=3
 words:∀k∈x.Xa,∀f∈k.Xb,f.Words.length<=3
 lives:x.Xd.length<=1
 life:∀l∈x.Xd,l.Xe.length<=4/\l.Xg.length<=5
 rules:x.Xc.length<=2
def kind_t {k:Qg} (h:kindS k=true) (hw:∀f∈k.Xb,f.Words.length<=3):(QdC k).length<=1200:=by
 simp only[kindS,Zf,Zu,Zk] at h;obtain⟨⟨⟨h1,h2⟩,h3⟩,h4⟩:=h;have:=Qbw h2;have hv:∀v∈[AnyV.str k.Xj,.int k.Lo,.int k.Hi],VT v:=by simp only[Zo,Zw,ZI,ZR,forall_eq];exact⟨Qfj h1,QbU (by omega),QbU (by omega)⟩
 have e1:=Qkn (w:=[107,105,110,100]) hv;have e2:=Qda (l:=k.Xb) (g:=QcW) (B:=115) λf hf=>QsH (h4 f hf) (hw f hf);unfold QdC;rw[Ze];simp only[Zj,Zl] at e1;omega
def life_t {l:QA} (h:QdX l=true) (hs:l.Xe.length<=4) (hm:l.Xg.length<=5):(Qd5 l).length<=300:=by
 simp only[QdX,Zf,Zu,Zk] at h;obtain⟨⟨⟨⟨h1,h2⟩,h3⟩,h4⟩,h5⟩:=h;have hl:=(Qa1 h2).2;have hv:∀v∈[AnyV.str l.Xj,.int (l.Xe.length:Int)]++l.Xe.map .str,VT v:=λv hv=>by
  rcases Zs.1 hv with hv | hv
  ·simp only[Zo,Zw,ZI] at hv;rcases hv with rfl | rfl
   ·exact Qfj h1
   ·exact QbU (by omega)
  ·obtain⟨s,hs,rfl⟩:=ZE.1 hv;exact Qfj (h3 s hs)
 have hmv:∀m∈l.Xg,(Qf4 m).length<=31:=λm hm=>by have h6:=h5 m hm;simp only[QdA,Zf] at h6;have a1:=Qa1 h6.1;have a2:=Qa1 h6.2;have:=Qkn (w:=[109,111,118,101]) (l:=[AnyV.int m.a0,.int m.a1]) (by simp only[Zo,Zw,ZI,ZR,forall_eq];exact⟨QbU (by omega),QbU (by omega)⟩);simp only[Zj,Zl] at this;unfold Qf4;omega
 have e1:=Qkn (w:=[108,105,102,101]) hv;have e2:=Qda hmv;unfold Qd5;rw[Ze];simp only[Ze,Zj,Zl,Zz] at e1;omega
def rule_t {r:Qs} (h:QbX r=true):(Qf5 r).length<=70:=by simp only[QbX,Zf] at h;obtain⟨⟨⟨⟨⟨h1,h2⟩,h3⟩,h4⟩,_⟩,h5⟩:=h;have:=Qa1 h5;have:=Qkn (w:=[114,117,108,101]) (l:=Qdu r) (by unfold Qdu;simp only[Zo,Zw,ZI,ZR,forall_eq];exact⟨Qfj h1,Qfj h2,Qko h3,Qko h4,QbU (by omega)⟩);have e:(Qdu r).length=5:=rfl;simp only[Zj,Zl] at this;unfold Qf5;omega
def QuJ {x:Qb} (h:Tiny x) (hv:Qeo x=true):Qep x=0:=by obtain⟨t1,t2,t3,t4,t5⟩:=h;have hok:=Qiw hv;have e0:=Qkn (w:=[115,99,104,101,109,97]) (l:=[AnyV.int x.Version]) (by simp only[Zo,Zw,ZI,forall_eq];have:=hok.version;exact QbU (by omega));have e1:=Qda (l:=x.Xa) (g:=QdC) (B:=1200) λk hk=>kind_t (hok.kind k hk) (t2 k hk);have e2:=Qda (l:=x.Xd) (g:=Qd5) (B:=300) λl hl=>life_t (hok.life l hl) (t4 l hl).1 (t4 l hl).2;have e3:=Qda (l:=x.Xc) (g:=Qf5) (B:=70) λr hr=>rule_t (hok.rule r hr);simp only[Zj,Zl] at e0;unfold Qep;rw[Zc hv,Zd];unfold srcS;simp only[Ze];omega
def VF (f:Qc):Prop:=fieldS f=true/\f.Words.length<=3/\(-1000<=f.Lo/\f.Lo<=1000)/\(-1000<=f.Hi/\f.Hi<=1000)
def KV (n:Nat) (k:Qg):Prop:=k.Xb.length<=n/\(∀f∈k.Xb,VF f)/\QK k.Xj=true/\(0<=k.Lo/\k.Lo<=k.Hi/\k.Hi<=65536)
def KV.Xp {a b:Nat} {k:Qg} (h:KV a k) (hab:a<=b):KV b k:=⟨Yv h.1 hab,h.2⟩
def Qjg {lo hi a b:Int} (h:a<=lo/\lo<=hi/\hi<=b):Qdl lo hi a b=true:=by unfold Qdl;simp only[Zf,Zk];omega
def QhJ {n a b:Int} (h:a<=n/\n<=b):inW n a b=true:=by unfold inW;simp only[Zf,Zk];omega
section
variable {n o u:Str} {lo hi:Int}
def vf_key (hn:QK n=true) (h:-1000<=lo/\lo<=1000):VF ⟨n,[],[],0,lo,0,[],[]⟩:=by refine⟨?_,by simp,h,by simp⟩;have:=QhJ (n:=lo) (a:=-1048576) (b:=1048576) (by omega);simp[fieldS,Qcy,Qcx,QbO,hn,this]
def Qr2 (hn:QK n=true) (ho:QK o=true) (h:0<=lo/\lo<=hi/\hi<=1000):VF ⟨n,o,[],1,lo,hi,[],[]⟩:=by refine⟨?_,by simp,by dsimp only;omega,by dsimp only;omega⟩;have:=Qjg (lo:=lo) (hi:=hi) (a:=0) (b:=65536) (by omega);simp[fieldS,Qcy,Qcx,QbO,hn,ho,this]
def Qr3 (hn:QK n=true) (h:-1000<=lo/\lo<=hi/\hi<=1000):VF ⟨n,[],[],2,lo,hi,[],[]⟩:=by refine⟨?_,by simp,by dsimp only;omega,by dsimp only;omega⟩;have:=Qjg (lo:=lo) (hi:=hi) (a:=-1048576) (b:=1048576) (by omega);simp[fieldS,Qcy,Qcx,QbO,hn,this]
def QCO {w:List Str} {g:List Int} (hn:QK n=true) (h:Qg8 w g=true) (hw:w.length<=3):VF ⟨n,[],[],3,0,0,w,g⟩:=by refine⟨?_,hw,by simp,by simp⟩;simp[fieldS,Qcy,Qcx,QbO,hn,h]
def Qxj (hn:QK n=true) (ho:((o==[])||QK o)=true) (h:-1000<=lo/\lo<=hi/\hi<=1000):VF ⟨n,o,[],4,lo,hi,[],[]⟩:=by refine⟨?_,by simp,by dsimp only;omega,by dsimp only;omega⟩;have:=Qjg (lo:=lo) (hi:=hi) (a:=-1048576) (b:=1048576) (by omega);simp[fieldS,Qcy,Qcx,QbO,hn,this];simpa using ho
def QCP (hn:QK n=true) (ho:QK o=true) (h:0<=lo/\lo<=hi/\hi<=32):VF ⟨n,o,[],5,lo,hi,[],[]⟩:=by refine⟨?_,by simp,by dsimp only;omega,by dsimp only;omega⟩;have:=Qjg (lo:=lo) (hi:=hi) (a:=0) (b:=32) (by omega);simp[fieldS,Qcy,Qcx,QbO,hn,ho,this]
def vf_sum (hn:QK n=true) (ho:QK o=true):VF ⟨n,o,[],6,0,0,[],[]⟩:=by refine⟨?_,by simp,by simp,by simp⟩;simp[fieldS,Qcy,Qcx,QbO,hn,ho]
def Qzh (hn:QK n=true) (ho:QK o=true) (hu:QK u=true) (h:0<=lo/\lo<=hi/\hi<=1000):VF ⟨n,o,u,7,lo,hi,[],[]⟩:=by refine⟨?_,by simp,by dsimp only;omega,by dsimp only;omega⟩;have:=Qjg (lo:=lo) (hi:=hi) (a:=0) (b:=1048576) (by omega);simp[fieldS,Qcy,Qcx,QbO,hn,ho,hu,this]
def QCQ (hn:QK n=true) (ho:QK o=true) (hu:QK u=true):VF ⟨n,o,u,8,0,0,[],[]⟩:=by refine⟨?_,by simp,by simp,by simp⟩;simp[fieldS,Qcy,Qcx,QbO,hn,ho,hu]
end
def VF.name {f:Qc} (h:VF f):QK f.Xj=true:=by have:=h.1;unfold fieldS at this;simp only[Zf] at this;exact this.1.1
def QtD {m:Qt} (hm:MOk m):Ok (QaY m) (λr=>r.1.length<=2/\(∀f∈r.1,VF f)/\MOk r.2):=by
 unfold QaY;refine Ok.take hm (by decide) λr m1 _ _ h1=>?_;refine Ok.ite (λ_=>?_) (λ_=>?_)
 ·refine Ok.take h1 (by decide) λr2 m2 a2 b2 h2=>Ok.take h2 (by decide) λr3 m3 a3 b3 h3=>Ok.mk ⟨by simp,?_,h3⟩;dsimp only;rw[w64 (n:=r2 - 5) (by omega) (by omega),w64 (n:=r2 - 5+r3) (by omega) (by omega)];intro f hf;rw[Zh] at hf;subst hf;exact Qr3 (by decide) (by omega)
 refine Ok.ite (λ_=>?_) (λ_=>?_)
 ·refine Ok.take h1 (by decide) λr2 m2 h20 h21 h2=>?_;have hr2:i64.wrap (1+r2)=1+r2:=w64 (by omega) (by omega);refine Ok.sub (by decide) (by dsimp only;rw[hr2];omega) (by dsimp only;rw[hr2];simp;omega) λw hw hwm=>?_;dsimp only at hw;rw[hr2] at hw;have hwl:1<=w.length/\w.length<=3:=by omega
  have hws:w.all QK=true:=by rw[Zu];intro s hs;have:=hwm s hs;simp only[Zo,Zw,ZI] at this;rcases this with rfl | rfl | rfl<;>decide
  refine Ok.bind (P:=λr=>(r.1.length=w.length/\∀g∈r.1,0<=g/\g<=10)/\MOk r.2) (Ok.loop (λk s=>0<=s.1/\s.1+k=w.length/\s.2.1.length=s.1/\(∀g∈s.2.1,0<=g/\g<=10)/\MOk s.2.2) w.length ⟨ZO _,by simp,by simp,by simp,h2⟩ λk s hs=>?_) (λp hp=>?_)
  ·obtain⟨i,ws,m3⟩:=s;obtain⟨e1,e2,e3,e5,e4⟩:=hs;dsimp only at e1 e2 e3 e4 e5;refine Ok.ite (λh=>?_) (λh=>?_)
   ·have h':i<w.length:=ZC h;refine Ok.take e4 (by decide) λr4 m4 a4 b4 h4=>Ok.rm (by simp;omega) (Ok.mk ?_);dsimp only;rw[w64 (by omega) (by omega)];refine⟨k - 1,by omega,by omega,by omega,by simp;omega,λg hg=>?_,h4⟩;rcases Zs.1 hg with hg | hg
    ·exact e5 g hg
    ·rw[Zh] at hg;omega
   ·have h':¬i<w.length:=ZS h;exact Ok.mk ⟨⟨by dsimp only;omega,e5⟩,e4⟩
  ·obtain⟨⟨p1,p2⟩,p3⟩:=hp;refine Ok.take p3 (by omega) λr4 m4 h40 h41 h4=>Ok.take h4 (by decide) λr5 m5 a5 b5 h5=>?_;refine Ok.setAt h40 (by dsimp only;omega) (Ok.mk ⟨by simp,?_,h5⟩);dsimp only;rw[w64 (n:=1+r5) (by omega) (by omega)];intro f hf;rw[Zh] at hf;subst hf;have hall:∀g∈p.1.set r4.toNat (1+r5),0<=g/\g<=10:=λg hg=>by
    rcases mem_or_eq_of_mem_set hg with hg | hg
    ·exact p2 g hg
    ·omega
   have hmem:(1+r5)∈p.1.set r4.toNat (1+r5):=mem_set (by omega) _;have hsum:∀l:List Int,(∀g∈l,0<=g/\g<=10)->∀v∈l,v<=l.sum/\0<=l.sum:=λl=>by
    induction l with
    | nil=>intro _ v hv;cases hv
    | cons a l ih=>
     intro hl v hv;have ha:=hl a Zn;have hs:0<=l.sum:=by
      have:∀l:List Int,(∀g∈l,0<=g/\g<=10)->0<=l.sum:=λl=>by
       induction l with
       | nil=>intro _;simp
       | cons b l ih2=>intro h;have h1:=h b Zn;have h2:=ih2 λg hg=>h g (Zq _ hg);simp only[sum_cons];omega
      exact this l λg hg=>hl g (Zq _ hg)
     simp only[sum_cons];rcases Zo.1 hv with rfl | hv
     ·omega
     ·have:=(ih (λg hg=>hl g (Zq _ hg)) v hv).1;omega
   refine QCO (by decide) ?_ (by omega);unfold Qg8;simp only[Zf,Zu,Yd,Zk];refine⟨λg hg=>QhJ (by have:=hall g hg;omega),⟨⟨QhJ (by omega),by rw[Yz];omega⟩,?_⟩,λs hs=>Zu.1 hws s hs⟩;have:=(hsum _ hall _ hmem).1;omega
 refine Ok.ite (λ_=>?_) (λ_=>?_)
 ·refine Ok.take h1 (by decide) λr2 m2 a2 b2 h2=>Ok.take h2 (by decide) λr3 m3 a3 b3 h3=>Ok.take h3 (by decide) λr4 m4 a4 b4 h4=>Ok.take h4 (by decide) λr5 m5 a5 b5 h5=>Ok.mk ⟨by simp,?_,h5⟩;dsimp only;rw[w64 (n:=r2 - 200) (by omega) (by omega),w64 (n:=r2 - 200+r3) (by omega) (by omega),w64 (n:=3+r5) (by omega) (by omega)];intro f hf;simp only[Zo,Zw,ZI] at hf;rcases hf with rfl | rfl
  ·exact Qxj (by decide) (by decide) (by omega)
  ·exact Qxj (by decide) (by decide) (by omega)
 refine Ok.ite (λ_=>?_) (λ_=>?_)
 ·refine Ok.take h1 (by decide) λr2 m2 a2 b2 h2=>Ok.take h2 (by decide) λr3 m3 a3 b3 h3=>Ok.mk ⟨by simp,?_,h3⟩;dsimp only;rw[w64 (n:=r2+r3) (by omega) (by omega)];intro f hf;rw[Zh] at hf;subst hf;exact QCP (by decide) (by decide) (by omega)
 refine Ok.ite (λ_=>?_) (λ_=>?_)
 ·refine Ok.take h1 (by decide) λr2 m2 a2 b2 h2=>Ok.take h2 (by decide) λr3 m3 a3 b3 h3=>Ok.take h3 (by decide) λr4 m4 a4 b4 h4=>Ok.take h4 (by decide) λr5 m5 a5 b5 h5=>Ok.mk ⟨by simp,?_,h5⟩;dsimp only;rw[w64 (n:=5+r3) (by omega) (by omega),w64 (n:=10+r5) (by omega) (by omega)];intro f hf;simp only[Zo,Zw,ZI] at hf;rcases hf with rfl | rfl
  ·exact Qr3 (by decide) (by omega)
  ·exact Qr3 (by decide) (by omega)
 ·exact Ok.mk ⟨by simp,by simp,h1⟩
abbrev Sg:=Str×Int×Str×Str
def sg (f:Qc):Sg:=(f.Xj,f.Xi,f.Of,f.Up)
def sSize:Sg:=([115,105,122,101],2,[],[])
def sTag:Sg:=([116,97,103],3,[],[])
def QuK:Sg:=([98,111,114,110],4,[],[])
def sLeft:Sg:=([108,101,102,116],4,[98,111,114,110],[])
def Qxk:Sg:=([115,116,97,116,101],5,[108,105,102,101],[])
def sLow:Sg:=([108,111,119],2,[],[])
def sHigh:Sg:=([104,105,103,104],2,[],[])
def Qbk:List (List Sg):=[[],[sSize],[sTag],[QuK,sLeft],[Qxk],[sLow,sHigh]]
def Ok.and {α:Type} {x:Option α} {P Q:α->Prop} (h:Ok x P) (k:Ok x Q):Ok x (λr=>P r/\Q r):=by obtain⟨r,e,p⟩:=h;obtain⟨s,f,q⟩:=k;rw[e] at f;cases f;exact⟨r,e,p,q⟩
def QtE {m:Qt} (hm:MOk m):Ok (QaY m) (λr=>r.1.map sg∈Qbk/\MOk r.2):=by
 unfold QaY;refine Ok.take hm (by decide) λr m1 _ _ h1=>?_;refine Ok.ite (λ_=>?_) (λ_=>?_)
 ·exact Ok.take h1 (by decide) λr2 m2 a2 b2 h2=>Ok.take h2 (by decide) λr3 m3 a3 b3 h3=>Ok.mk ⟨by simp[Qbk,sg,sSize],h3⟩
 refine Ok.ite (λ_=>?_) (λ_=>?_)
 ·refine Ok.take h1 (by decide) λr2 m2 h20 h21 h2=>?_;have hr2:i64.wrap (1+r2)=1+r2:=w64 (by omega) (by omega);refine Ok.sub (by decide) (by dsimp only;rw[hr2];omega) (by dsimp only;rw[hr2];simp;omega) λw hw hwm=>?_;dsimp only at hw;rw[hr2] at hw;have hwl:1<=w.length/\w.length<=3:=by omega
  refine Ok.bind (P:=λr=>r.1.length=w.length/\MOk r.2) (Ok.loop (λk s=>0<=s.1/\s.1+k=w.length/\s.2.1.length=s.1/\MOk s.2.2) w.length ⟨ZO _,by simp,by simp,h2⟩ λk s hs=>?_) (λp hp=>?_)
  ·obtain⟨i,ws,m3⟩:=s;obtain⟨e1,e2,e3,e4⟩:=hs;dsimp only at e1 e2 e3 e4;refine Ok.ite (λh=>?_) (λh=>?_)
   ·have h':i<w.length:=ZC h;refine Ok.take e4 (by decide) λr4 m4 a4 b4 h4=>Ok.rm (by simp;omega) (Ok.mk ?_);dsimp only;rw[w64 (by omega) (by omega)];exact⟨k - 1,by omega,by omega,by omega,by simp;omega,h4⟩
   ·have h':¬i<w.length:=ZS h;exact Ok.mk ⟨by dsimp only;omega,e4⟩
  ·obtain⟨p1,p3⟩:=hp;refine Ok.take p3 (by omega) λr4 m4 h40 h41 h4=>Ok.take h4 (by decide) λr5 m5 a5 b5 h5=>?_;exact Ok.setAt h40 (by dsimp only;omega) (Ok.mk ⟨by simp[Qbk,sg,sTag],h5⟩)
 refine Ok.ite (λ_=>?_) (λ_=>?_)
 ·exact Ok.take h1 (by decide) λr2 m2 a2 b2 h2=>Ok.take h2 (by decide) λr3 m3 a3 b3 h3=>Ok.take h3 (by decide) λr4 m4 a4 b4 h4=>Ok.take h4 (by decide) λr5 m5 a5 b5 h5=>Ok.mk ⟨by simp[Qbk,sg,QuK,sLeft],h5⟩
 refine Ok.ite (λ_=>?_) (λ_=>?_)
 ·exact Ok.take h1 (by decide) λr2 m2 a2 b2 h2=>Ok.take h2 (by decide) λr3 m3 a3 b3 h3=>Ok.mk ⟨by simp[Qbk,sg,Qxk],h3⟩
 refine Ok.ite (λ_=>?_) (λ_=>?_)
 ·exact Ok.take h1 (by decide) λr2 m2 a2 b2 h2=>Ok.take h2 (by decide) λr3 m3 a3 b3 h3=>Ok.take h3 (by decide) λr4 m4 a4 b4 h4=>Ok.take h4 (by decide) λr5 m5 a5 b5 h5=>Ok.mk ⟨by simp[Qbk,sg,sLow,sHigh],h5⟩
 ·exact Ok.mk ⟨by simp[Qbk],h1⟩
def Qqw {l:List Qc} {name:Str} (hl:l.length<=1000):Ok (Qdi l name) (λr=>(-1<=r/\r<l.length)/\(r<0->∀f∈l,f.Xj≠name)/\(0<=r->∃f∈l,f.Xj=name)):=by
 unfold Qdi;refine Ok.bind (P:=λe=>match e with | .inl _=>∀f∈l,f.Xj≠name | .inr r=>(0<=r/\r<l.length)/\∃f∈l,f.Xj=name) (Ok.loop (λk s=>0<=s/\s+k=l.length/\∀f∈l.take s.toNat,f.Xj≠name) l.length ⟨by omega,by omega,by simp⟩ λk s hs=>?_) (λe he=>?_)
 ·obtain⟨h0,h1,h2⟩:=hs;refine Ok.ite (λh=>?_) (λh=>Ok.mk ?_)
  ·have h':s<l.length:=ZC h;refine Ok.idx h0 h' λv hm hv=>Ok.ite (λhe=>Ok.mk ⟨⟨h0,h'⟩,v,hm,by simpa using he⟩) (λhne=>Ok.mk ?_);rw[w64 (by omega) (by omega)];refine⟨k - 1,by omega,by omega,by omega,?_⟩;rw[show (s+1).toNat=s.toNat+1 by omega,take_add_one,hv];intro f hf;rcases Zs.1 hf with hf | hf
   ·exact h2 f hf
   ·simp only[Option.toList_some,Zh] at hf;subst hf;simpa using hne
  ·have h':¬s<l.length:=ZS h;show ∀f∈l,f.Xj≠name;rw[ZJ (by omega)] at h2;exact h2
 ·rcases e with e | e
  ·exact Ok.mk ⟨⟨by omega,by omega⟩,λ_=>he,λh=>by omega⟩
  ·exact Ok.mk ⟨⟨by omega,he.1.2⟩,λh=>by omega,λ_=>he.2⟩
def Qzi {k:Qg} (hl:k.Xb.length<=1000):Ok (QdG k) (λr=>(-1<=r/\r<k.Xb.length)/\(0<=r->∃f,k.Xb[r.toNat]?=some f/\f.Xi≠0/\f.Xi≠1/\f.Xi≠6/\f.Xi≠7)):=by
 unfold QdG;refine Ok.bind (P:=λe=>match e with | .inl _=>True | .inr r=>(0<=r/\r<k.Xb.length)/\∃f,k.Xb[r.toNat]?=some f/\f.Xi≠0/\f.Xi≠1/\f.Xi≠6/\f.Xi≠7) (Ok.loop (λn s=>0<=s/\s+n=k.Xb.length) k.Xb.length ⟨by omega,by omega⟩ λn s hs=>?_) (λe he=>?_)
 ·refine Ok.ite (λh=>?_) (λh=>Ok.mk trivial);have h':s<k.Xb.length:=ZC h;refine Ok.idx hs.1 h' λv _ hv=>Ok.ite (λhk=>Ok.mk ⟨⟨hs.1,h'⟩,v,hv,?_⟩) (λ_=>Ok.mk ?_)
  ·simp only[Zf,bne_iff_ne,ne_eq] at hk;exact⟨hk.1.1.1,hk.1.1.2,hk.1.2,hk.2⟩
  ·rw[w64 (by omega) (by omega)];exact⟨n - 1,by omega,by omega,by omega⟩
 ·rcases e with e | e
  ·exact Ok.mk ⟨⟨by omega,by omega⟩,λh=>by omega⟩
  ·exact Ok.mk ⟨⟨by omega,he.1.2⟩,λ_=>he.2⟩
abbrev Ks:=Str×List Sg
def ks (k:Qg):Ks:=(k.Xj,k.Xb.map sg)
def nOf:Str:=[111,102]
def Qg4:Str:=[116,111,116,97,108]
def sId:Sg:=([105,100],0,[],[])
def sOf (n:Str):Sg:=(nOf,1,n,[])
def Qi1 (n:Str):Sg:=([115,97,109,101],8,n,nOf)
def QhK:Sg:=([112,97,114,116],7,Qg4,nOf)
def QhL (n:Str):Sg:=(Qg4,6,n,[])
def sBy (n:Str):Sg:=([98,121],1,n,[])
def PreS (T:List Ks) (nm:Str) (F:List Sg) (T':List Ks):Prop:=
 (T.length=0/\F=[sId]/\T'=T)\/
 ∃(to:Nat) (t:Ks) (cp pt:List Sg),T[to]?=some t/\F=sId::sOf t.1::(cp++pt)/\
  (cp=[]\/∃g∈t.2,(g.2.1≠0/\g.2.1≠1/\g.2.1≠6/\g.2.1≠7)/\cp=[Qi1 g.1])/\
  ((pt=[]/\T'=T)\/((∀g∈t.2,g.1≠Qg4)/\pt=[QhK]/\T'=T.set to (t.1,t.2++[QhL nm])))
def Qer (T:List Ks) (q:Ks) (T':List Ks):Prop:=∃(F by' p1 p2:List Sg),PreS T q.1 F T'/\(by'=[]\/(1<T.length/\∃t,T'[0]?=some t/\by'=[sBy t.1]))/\p1∈Qbk/\(p2=[]\/(p2∈Qbk/\∀g,p2[0]?=some g->∀f∈F++by'++p1,f.1≠g.1))/\q.2=F++by'++p1++p2
def QiG:List Str:=[[112,101,114,115,111,110],[111,114,100,101,114],[105,116,101,109]]
def Qov {p:List Qc} (h:p.map sg∈Qbk):p.length<=2:=by
 have e:p.length=(p.map sg).length:=by simp
 simp only[Qbk,Zo,Zw,ZI] at h;rw[e];rcases h with h | h | h | h | h | h<;>rw[h]<;>decide
set_option maxHeartbeats 1000000 in
def kind_w {m:Qt} {l:List Qg} {N:Nat} (hm:MOk m) (hl:l.length<=2) (hN:N<=20) (hk:∀k∈l,k.Xb.length<=N) (hw:∀k∈l,k.Hi - k.Lo<=29):
  Ok (Qbm m l) (λr=>(QiG[l.length]?=some r.1.Xj/\r.1.Hi - r.1.Lo<=29)/\(MOk r.2.1/\∀k∈r.2.2,k.Hi - k.Lo<=29)/\Qer (l.map ks) (ks r.1) (r.2.2.map ks)):=by
 unfold Qbm;refine Ok.take hm (by decide) λr1 m1 a1 b1 h1=>?_;refine Ok.idx a1 (by simpa using b1) λlo hlo _=>?_;refine Ok.idx (by omega) (by simp;omega) λname _ ename=>?_;have hlo2:0<=lo/\lo<=4:=by simp only[Zo,Zw,ZI] at hlo;omega
 refine Ok.take h1 (by decide) λr2 m2 a2 b2 h2=>?_;refine Ok.take h2 (by decide) λr3 m3 a3 b3 h3=>?_;refine Ok.idx a3 (by simpa using b3) λid0 hid _=>?_;refine Ok.rm (by simp) ?_;refine Ok.bind (P:=λp:Qt×List Qc×List Qg=>MOk p.1/\p.2.1.length<=4/\(p.2.2.length=l.length/\∀k∈p.2.2,k.Hi - k.Lo<=29)/\PreS (l.map ks) name (p.2.1.map sg) (p.2.2.map ks))
  (Ok.ite (λhpos=>?_) (λhz=>Ok.mk ⟨h3,by simp,⟨rfl,hw⟩,.inl ⟨?_,rfl,rfl⟩⟩)) λp hp=>?_
 ·have hpos':(0:Int)<l.length:=ZC hpos;refine Ok.take h3 (by omega) λto m4 a4 b4 h4=>?_;refine Ok.idx a4 b4 λkt hkt ekt=>?_;have hT:(l.map ks)[to.toNat]?=some (ks kt):=by rw[ZG,ekt];rfl
  refine Ok.take h4 (by decide) λr5 m5 a5 b5 h5=>?_;refine Ok.idx a5 (by simpa using b5) λhi hhi _=>?_;refine Ok.take h5 (by decide) λr6 m6 _ _ h6=>?_;refine Ok.bind (P:=λf=>sg f=sOf kt.Xj) (Ok.ite (λ_=>Ok.mk rfl) (λ_=>Ok.mk rfl)) λf hf=>?_;refine Ok.rm (by simp) ?_;refine Ok.idx a4 b4 λkt1 hkt1 ekt1=>?_;have e:kt1=kt:=Zt (ekt1.symm.trans ekt);subst e;refine (Qzi (by have:=hk _ hkt1;omega)).bind λc hc=>?_;refine Ok.opt (P:=λr:Int×Qt=>MOk r.2) (λh=>(Qd4 h6 (by decide)).Xp λr h=>h.2.2) λr7 h7=>?_;have m7:MOk (bif (decide (c>=(0:Int)))==true then r7.2 else m6):=QdL (λh=>h7 (by rw[h];rfl)) h6;refine Ok.bind (P:=λp:List Qc=>p.length<=3/\∃cp,p.map sg=sId::sOf kt1.Xj::cp/\(cp=[]\/∃g∈(ks kt1).2,(g.2.1≠0/\g.2.1≠1/\g.2.1≠6/\g.2.1≠7)/\cp=[Qi1 g.1])) (Ok.ite (λh=>?_) (λ_=>Ok.mk ⟨by simp,[],?_,.inl rfl⟩)) λfs hfs=>?_
  ·simp only[Zf,Zk] at h;refine Ok.idx a4 b4 λkt2 hkt2 ekt2=>?_;have e:kt2=kt1:=Zt (ekt2.symm.trans ekt);subst e;refine Ok.idx h.1 hc.1.2 λg hg eg=>Ok.rm (by simp) (Ok.mk ⟨by simp,[Qi1 g.Xj],?_,.inr ⟨sg g,ZZ hg,?_,rfl⟩⟩)
   ·show [sId,sg f,Qi1 g.Xj]=_;rw[hf]
   ·obtain⟨g',eg',hg'⟩:=hc.2 h.1;have e:g'=g:=Zt (eg'.symm.trans eg);subst e;exact hg'
  ·show [sId,sg f]=_;rw[hf]
  ·obtain⟨hfl,cp,hfm,hcp⟩:=hfs;refine Ok.idx a4 b4 λkt3 hkt3 ekt3=>?_;have e:kt3=kt1:=Zt (ekt3.symm.trans ekt);subst e;refine (Qqw (by have:=hk _ hkt3;omega)).bind λtot htot=>?_;refine Ok.opt (P:=λr:Int×Qt=>MOk r.2) (λh=>(Qd4 m7 (by decide)).Xp λr h=>h.2.2) λr8 h8=>?_;have m8:MOk (bif (decide (tot<(0:Int)))==true then r8.2 else (bif (decide (c>=(0:Int)))==true then r7.2 else m6)):=QdL (λh=>h8 (by rw[h];rfl)) m7;refine Ok.bind (P:=λp:Qt×List Qc×List Qg=>MOk p.1/\p.2.1.length<=4/\(p.2.2.length=l.length/\∀k∈p.2.2,k.Hi - k.Lo<=29)/\PreS (l.map ks) name (p.2.1.map sg) (p.2.2.map ks))
    (Ok.ite (λh=>?_) (λ_=>Ok.mk ⟨m8,by dsimp only;omega,⟨rfl,hw⟩,.inr ⟨to.toNat,ks kt3,cp,[],hT,by rw[hfm,Yj];rfl,hcp,.inl ⟨rfl,rfl⟩⟩⟩)) λp hp=>Ok.mk hp
   simp only[Zf,Zk] at h;refine Ok.take m8 (by decide) λr9 m9 a9 b9 h9=>Ok.take h9 (by decide) λr10 m10 a10 b10 h10=>?_;refine Ok.rm (by simp;omega) ?_;refine Ok.idx a4 b4 λkt4 hkt4 ekt4=>?_;have hk4:=hk _ hkt4;refine Ok.rm (by simp;omega) (Ok.rm (by simp;omega) ?_);have e:kt4=kt3:=Zt (ekt4.symm.trans ekt);subst e;refine Ok.idx a4 b4 λkt5 hkt5 ekt5=>?_;have e:kt5=kt4:=Zt (ekt5.symm.trans ekt);subst e;refine Ok.setAt a4 b4 (Ok.mk ⟨h10,by simp;omega,⟨by simp,λk hkm=>?_⟩,.inr ⟨to.toNat,ks kt5,cp,[QhK],hT,?_,hcp,.inr ⟨?_,rfl,?_⟩⟩⟩)
   ·rcases mem_or_eq_of_mem_set hkm with hkm | rfl
    ·exact hw k hkm
    ·exact hw kt5 hkt5
   ·dsimp only;rw[ZM,hfm];rfl
   ·intro g hg;obtain⟨f',hf',rfl⟩:=ZE.1 hg;exact htot.2.1 h.1 f' hf'
   ·dsimp only;rw[map_set];congr 1;simp[ks,sg,QhL,Qg4]
 ·have:¬((l.length:Int)>0):=ZS hz;simp;exact length_eq_zero_iff.1 (by omega)
 ·obtain⟨q1,q2,⟨q4,q7⟩,q5⟩:=hp;refine Ok.opt (P:=λr:Int×Qt=>MOk r.2) (λh=>(Qd4 q1 (by decide)).Xp λr h=>h.2.2) λr11 h11=>?_;have m11:MOk (bif (decide ((l.length:Int)>(1:Int)))==true then r11.2 else p.1):=QdL (λh=>h11 (by rw[h];rfl)) q1;refine Ok.bind (P:=λf:List Qc=>f.length<=5/\∃by',f.map sg=p.2.1.map sg++by'/\(by'=[]\/(1<(l.map ks).length/\∃t,(p.2.2.map ks)[0]?=some t/\by'=[sBy t.1]))) (Ok.ite (λh=>?_) (λ_=>Ok.mk ⟨by omega,[],by simp,.inl rfl⟩)) λfs hfs=>?_
  ·simp only[Zf,Zk] at h;refine Ok.idx (by decide) (by omega) λk0 hk0 ek0=>Ok.rm (by simp;omega) (Ok.mk ⟨by simp;omega,[sBy k0.Xj],by rw[ZM];rfl,.inr ⟨by simp;omega,ks k0,?_,rfl⟩⟩);rw[ZG];rw[show (0:Int).toNat=0 from rfl] at ek0;rw[ek0];rfl
  ·refine (QtE m11).bind λr12 h12=>?_;obtain⟨c1,c3⟩:=h12;have c2:=Qov c1;obtain⟨f1,by',f2,f3⟩:=hfs;refine Ok.rm (by omega) ?_;refine Ok.take c3 (by decide) λr13 m13 _ _ h13=>?_;have eh:i64.wrap (lo+r2)=lo+r2:=w64 (by omega) (by omega);refine Ok.bind (P:=λq:Qt×List Qc=>MOk q.1/\∃p2,q.2.map sg=p.2.1.map sg++by'++r12.1.map sg++p2/\(p2=[]\/(p2∈Qbk/\∀g,p2[0]?=some g->∀f∈p.2.1.map sg++by'++r12.1.map sg,f.1≠g.1))) (Ok.ite (λh=>?_) (λ_=>Ok.mk ⟨h13,[],by rw[ZM,f2,Yj],.inl rfl⟩)) λp52 hp52=>?_
   ·refine (QtE h13).bind λr14 h14=>?_;obtain⟨d1,d3⟩:=h14;have d2:=Qov d1;refine Ok.opt (P:=λv=>r14.1[0]?=some v) (λh=>?_) λg hg=>?_
    ·have h':(r14.1.length:Int)>0:=by simpa using h
     exact (Ok.idx (by decide) (by omega) λv _ ev=>Ok.mk ev:Ok ((idx r14.1 0).bind some) (λv=>r14.1[0]?=some v)).Xp (λ_ h=>h) |> λh=>by simpa using h
    refine Ok.opt (P:=λt=>t<0->∀f∈fs++r12.1,f.Xj≠g.Xj) (λh=>(Qqw (by rw[Ze];omega)).Xp λ_ h=>h.2.1) λg2 hg2=>?_;refine Ok.bind (P:=λq:List Qc=>∃p2,q.map sg=p.2.1.map sg++by'++r12.1.map sg++p2/\(p2=[]\/(p2∈Qbk/\∀g,p2[0]?=some g->∀f∈p.2.1.map sg++by'++r12.1.map sg,f.1≠g.1))) (Ok.ite (λh=>Ok.rm (by rw[Ze];omega) (Ok.mk ⟨r14.1.map sg,by rw[ZM,ZM,f2],.inr ⟨d1,λs hs f hf=>?_⟩⟩)) (λ_=>Ok.mk ⟨[],by rw[ZM,f2,Yj],.inl rfl⟩)) λp64 hp64=>Ok.mk ⟨d3,hp64⟩;simp only[Zf,Zk] at h;have e1:=hg (by simpa using h.1);have e2:=hg2 (by simpa using h.1) h.2;rw[ZG,e1] at hs;cases hs;rw[<-f2,<-ZM] at hf;obtain⟨f',hf',rfl⟩:=ZE.1 hf;exact e2 f' hf'
   ·obtain⟨z1,p2,z2,z3⟩:=hp52;refine Ok.mk ⟨⟨?_,?_⟩,⟨z1,q7⟩,p.2.1.map sg,by',r12.1.map sg,p2,q5,f3,c1,z3,z2⟩
    ·simpa[QiG] using ename
    ·dsimp only;rw[eh];omega
def nLow:Str:=[108,111,119]
def Qlc:Str:=[104,105,103,104]
def QmK:Str:=[115,105,122,101]
def Qld (q:Ks) (r:Qs):Prop:=r.Xi=q.1/\(∃p:Str,r.Xj=p++q.1.take 1)/\((r.A=nLow/\r.B=Qlc/\∃g∈q.2,g.1=nLow)\/((∃g∈q.2,g.1=QmK)/\((r.A=QmK/\r.B=[])\/(r.A=[]/\r.B=QmK))))
def rule_w {m:Qt} {k:Qg} (hm:MOk m) (hf:k.Xb.length<=1000) (h0:1<=k.Xj.length) (h1:k.Xj.length<=1000):Ok (Qbn m k) (λr=>(r.2.1=true->Qld (ks k) r.1)/\MOk r.2.2):=by
 unfold Qbn;have hs:sub k.Xj 0 1=some (k.Xj.take 1):=by unfold sub;rw[Zc ⟨by decide,by decide,by omega⟩];rfl
 have hl:(k.Xj.take 1).length<=1:=by rw[Yh];omega
 have sgm:∀{n:Str},(∃f∈k.Xb,f.Xj=n)->∃g∈(ks k).2,g.1=n:=λ⟨f,hf,e⟩=>⟨sg f,ZZ hf,e⟩;rw[hs];simp only[Za];refine (Qqw hf).bind λa ha=>(Qqw hf).bind λb hb=>?_;refine Ok.opt (P:=λr:Int×Qt=>MOk r.2) (λh=>(Qd4 hm (by decide)).Xp λr h=>h.2.2) λr1 h1=>?_;have m1:MOk (bif (decide (a>=(0:Int)))==true then r1.2 else m):=QdL (λh=>h1 (by rw[h];rfl)) hm;refine Ok.ite (λh=>Ok.cat (by simp;omega) (Ok.take m1 (by decide) λv m2 a2 b2 h2=>Ok.mk ⟨λ_=>?_,h2⟩)) (λ_=>?_)
 ·simp only[Zf,Zk] at h;exact⟨rfl,⟨_,rfl⟩,.inl ⟨rfl,rfl,sgm (ha.2.2 h.1)⟩⟩
 refine Ok.ite (λ_=>Ok.mk ⟨λh=>(by cases h),m1⟩) (λh=>?_);have hb0:¬b<0:=ZS h;refine Ok.idx (by omega) hb.1.2 λf hf _=>Ok.take m1 (by decide) λr2 m2 _ _ h2=>?_;refine Ok.ite (λ_=>Ok.cat (by simp;omega) (Ok.take h2 (by decide) λv m2 a2 b2 h2=>Ok.mk ⟨λ_=>?_,h2⟩)) (λ_=>Ok.cat (by simp;omega) (Ok.take h2 (by decide) λv m2 a2 b2 h2=>Ok.mk ⟨λ_=>?_,h2⟩))
 ·exact⟨rfl,⟨_,rfl⟩,.inr ⟨sgm (hb.2.2 (by omega)),.inl ⟨rfl,rfl⟩⟩⟩
 ·exact⟨rfl,⟨_,rfl⟩,.inr ⟨sgm (hb.2.2 (by omega)),.inr ⟨rfl,rfl⟩⟩⟩

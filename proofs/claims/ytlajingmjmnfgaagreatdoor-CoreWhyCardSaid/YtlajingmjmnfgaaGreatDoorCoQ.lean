/- Package core. No condition. -/
import Derived.Test.YtlajingmjmnfgaaGreatDoorCoJ
set_option linter.all false
open List
namespace Go.Proofs.YtlajingmjmnfgaaGreatDoor
open Go.Sim
def QrO {all:List Str} (hn:all.Nodup):∀{js:List Nat} {b:Nat},js.Pairwise (·< ·)->(∀j∈js,b<=j/\j<all.length)->Qco all (js.map λi=>all.getD i []) b=some js
 | [],_,_,_=>rfl
 | j::js,b,hp,h=>by
  obtain⟨hp1,hp2⟩:=pairwise_cons.1 hp;obtain⟨hb,hj⟩:=h j (Zn ..);rw[Yf];unfold Qco;have hg:all.getD j []=all[j]:=by rw[Zf,Zb hj];rfl
  have hf:all.findIdx? (λt=>all.getD j []==t)=some j:=by
   rw[ZC];refine⟨hj,by rw[hg];simp,λi hi=>?_⟩;rw[hg];have:all[i]≠all[j]:=λe=>by have:=QlY hn (by omega) hj e;omega
   simpa using this.symm
  rw[hf];dsimp only;rw[Zc hb,QrO hn hp2 λi hi=>⟨by have:=hp1 i hi;omega,(h i (Zs _ hi)).2⟩];rfl
def QwR {js:List Nat} (hn:js.Nodup) {s:Nat} (hs:s<js.length) {i:Nat}:i∈js.eraseIdx s↔i∈js/\i≠js[s]:=by
 constructor
 ·intro h;refine⟨mem_of_mem_eraseIdx h,λe=>?_⟩;rw[eraseIdx_eq_take_drop_succ] at h;have hp:=pairwise_iff_getElem.1 (show Pairwise (·≠·) js from hn);rcases Zt.1 h with h | h
  ·obtain⟨a,ha,e2⟩:=mem_take_iff_getElem.1 h;exact hp a s (by omega) hs (by omega) (e2.trans e)
  ·obtain⟨a,ha,e2⟩:=mem_drop_iff_getElem.1 h;exact hp s (s+1+a) hs (by omega) (by omega) (e.symm.trans e2.symm)
 ·rintro ⟨h,hne⟩;obtain⟨a,ha,rfl⟩:=ZY h;rw[eraseIdx_eq_take_drop_succ];rcases Nat.lt_trichotomy a s with h' | h' | h'
  ·exact mem_append_left _ (mem_take_iff_getElem.2 ⟨a,by omega,rfl⟩)
  ·subst h';exact absurd rfl hne
  ·exact mem_append_right _ (mem_drop_iff_getElem.2 ⟨a - (s+1),by omega,by simp only[show s+1+(a - (s+1))=a by omega]⟩)
def Qnh {x:Qb} (hc:QZ x=[]):(nLim x>16/\whyR x=([],4))\/(nLim x<=16/\Qdu x=true/\whyR x=([],6))\/(nLim x<=16/\Qdu x=false/\whyR x=((whyJ x).map (Qbq x),0)):=by
 unfold whyR;rw[hc];dsimp only;by_cases h16:nLim x>16
 ·rw[Zc h16];exact .inl ⟨h16,rfl⟩
 ·rw[Zd h16]
  cases hb:Qdu x with
  | true=>rw[Zc rfl];exact .inr (.inl ⟨by omega,rfl,rfl⟩)
  | false=>rw[Zd (by simp)];exact .inr (.inr ⟨by omega,rfl,rfl⟩)
structure WhyOk (x:Qb):Prop where
 sorted:(whyJ x).Pairwise (·< ·)
 lt:∀j∈whyJ x,j<(QaK x).length
 not:Qcs x (λi=>(whyJ x).contains i)=false
 less:∀s,s<(whyJ x).length->Qcs x (λi=>((whyJ x).eraseIdx s).contains i)=true
 pos:0<(whyJ x).length
 few:(whyJ x).length<=300
def QwS {x:Qb} (hc:QZ x=[]) (h16:nLim x<=16) (hb:Qdu x=false):WhyOk x:=by
 obtain⟨K,m,hmin,hbest,hsz⟩:=Qnf hc h16 hb;have hmem:∀i,i∈whyJ x↔i∈wOf x K m:=λi=>by rw[QrK,hbest]
 have hsort:=Qsm (x:=x) (by rw[hbest];exact QB8 hc K m);have hnd:(whyJ x).Nodup:=hsort.imp λh=>by omega
 have hl:(whyJ x).length=Qbh x K m:=by rw[Qng,hbest,Qk1 h16 hmin.bad.lt]
 have h300:=QhR hc;refine⟨hsort,λj hj=>?_,?_,λs hs=>?_,by rw[hl];exact QrD hc h16 hmin.bad,by omega⟩
 ·rw[Qhg];exact w_lt hc ((hmem j).1 hj)
 ·rw[w_kept hc hmin.bad.good hmem];exact hmin.bad.bad
 ·refine w_less hc h16 hmin ((hmem _).1 (Zk hs)) λi=>?_;rw[QwR hnd hs,hmem]
def QpL {x:Qb} (hc:QZ x=[]) (h16:nLim x<=16) (hb:Qdu x=false):Qjk x ((whyJ x).map (Qbq x))=0:=by have h:=QwS hc h16 hb;unfold Qjk;rw[hc];dsimp only;rw[Zd (by omega)];have hm:Qco (QaK x) ((whyJ x).map (Qbq x)) 0=some (whyJ x):=QrO (QjP hc) h.sorted λj hj=>⟨by omega,h.lt j hj⟩;rw[hm];dsimp only;rw[h.not,Zd (by simp),Zc];exact ZH.2 λs hs=>h.less s (ZD.1 hs)
def QyN {x:Qb}:(whyR x).2=(QjH x).2/\((whyR x).1.length:Int)=(QjH x).1/\(whyR x).1.length<=300/\((whyR x).2=0->Qjk x (whyR x).1=0):=by
 cases hc:QZ x with
 | cons p l=>
  have hne:=Qgt (x:=x) (p:=p) (by rw[hc];exact Zn ..);have e1:whyR x=([],p.Code):=by unfold whyR;rw[hc]
  have e2:QjH x=(0,p.Code):=by unfold QjH;rw[hc]
  rw[e1,e2];exact⟨rfl,rfl,by simp,λh=>absurd h hne⟩
 | nil=>
  have e2:QjH x=if nLim x>16 then (0,4) else if Qdu x=true then (0,6) else (((Qdg x).length:Int),0):=by unfold QjH;rw[hc]
  rw[e2];rcases Qnh hc with⟨h1,h⟩ | ⟨h1,h2,h⟩ | ⟨h1,h2,h⟩
  ·rw[h,Zc h1];exact⟨rfl,rfl,by simp,λh=>by cases h⟩
  ·rw[h,Zd (by omega),Zc h2];exact⟨rfl,rfl,by simp,λh=>by cases h⟩
  ·rw[h,Zd (by omega),Zd (by rw[h2];simp)];have:=(QwS hc h1 h2).few;refine⟨rfl,?_,by simpa using this,λ_=>QpL hc h1 h2⟩;dsimp only;rw[Zv,Qng]
def Qsn:Qb4 (Qb.mk (0:Int) ([]:(List Qi)) ([]:(List QC)) ([]:(List Qp))):=⟨⟨by simp,λk hk=>by cases hk⟩,⟨⟨by simp,λk hk=>by cases hk⟩,⟨by simp,λk hk=>by cases hk⟩,by simp⟩,by simp,by simp⟩
def QwT {l m:List Int} {a h b:Int} (i0:∀x∈l,I64 x) (i1:∀x∈m,I64 x) (i2:I64 a) (i3:I64 h) (i4:I64 b):Ok (QgO l m a h b) (λr=>r.length=4/\∀z∈r,Qb4 z):=by
 unfold QgO;refine (QvY i0).bind λx hx=>?_;have hxs:=(hx.sz (by decide)).short;refine (QyM hxs hxs.few.2 i1).bind λy hy=>?_;refine (QBL hx (by decide) i2 i3 i4).bind λz hz=>?_;refine Ok.mk ⟨rfl,λw hw=>?_⟩;simp only[Zp,ZN,Yd] at hw;rcases hw with rfl | rfl | rfl | rfl
 ·exact hxs
 ·exact hy.short hxs
 ·exact (hz.sz (by decide)).short
 ·exact Qsn
def exS (lo:Int):Qb:=⟨0,[⟨[97],lo,5,[⟨[107],[],[],0,0,0,[],[]⟩,⟨[110],[],[],2,0,3,[],[]⟩]⟩],[],[⟨[114],[97],[],[110],-9⟩]⟩
def Ql2 (lo:Int):Qb4 (exS lo):=⟨⟨by simp[exS],λk hk=>by simp[exS] at hk;subst hk;simp⟩,⟨⟨by simp[exS],λk hk=>by simp[exS] at hk;subst hk;refine⟨by simp,λf hf=>?_⟩;simp at hf;rcases hf with rfl | rfl<;>simp⟩,⟨by simp[exS],λl hl=>by cases hl⟩,by simp[exS]⟩,by simp[exS],by simp[exS]⟩
set_option maxRecDepth 100000 in
def QyO:QZ (exS 1)=[]/\nLim (exS 1)=2/\Qdu (exS 1)=false/\Qdg (exS 1)=[0,3,4]/\QZ (exS 0)=[]/\nLim (exS 0)=2/\Qdu (exS 0)=true/\[0,3,4].map (Qbq (exS 1))=[([97,32,108,101,97,115,116]:Str),([97,46,110,32,104,105,103,104]:Str),([114,117,108,101,58,114]:Str)]:=by decide+kernel
def QrP:Qe2=some true:=by
 obtain⟨h1,h2,h3,h4,h5,h6,h7,h8⟩:=QyO;have hJ:whyJ (exS 1)=[0,3,4]:=by unfold whyJ;rw[h4,<-QvS];decide
 have hR:whyR (exS 1)=((whyJ (exS 1)).map (Qbq (exS 1)),0):=by
  rcases Qnh h1 with⟨h,_⟩ | ⟨_,h,_⟩ | ⟨_,_,h⟩
  ·omega
  ·rw[h3] at h;cases h
  ·exact h
 have hR0:whyR (exS 0)=([],6):=by
  rcases Qnh h5 with⟨h,_⟩ | ⟨_,_,h⟩ | ⟨_,h,_⟩
  ·omega
  ·exact h
  ·rw[h7] at h;cases h
 have hC:=QpL h1 (by omega) h3;rw[hJ,h8] at hR;rw[hJ,h8] at hC;have e1:Qc5 (1:Int)=some (exS 1):=rfl;have e0:Qc5 (0:Int)=some (exS 0):=rfl;unfold Qe2;rw[e1,e0];simp only[Za];rw[QrL (Ql2 1),QrL (Ql2 0),hR,hR0];simp only[Za,opt,beq_self_eq_true,Bool.and_self,if_true];rw[QoT (by simp)];have e:((true&&true)==true)=true:=rfl;simp only[Za,e,if_true];rw[Qon (Ql2 1) (by simp),hC];rfl
def QrQ (l m:List Int) (a h b:Int) (i0:∀x∈l,I64 x) (i1:∀x∈m,I64 x) (i2:I64 a) (i3:I64 h) (i4:I64 b):Qe3 l m a h b=some true:=by
 have key:Ok (Qe3 l m a h b) (λr=>r=true):=by
  unfold Qe3;refine (QwT i0 i1 i2 i3 i4).bind λC ⟨hCn,hCs⟩=>?_;rw[QcM C (λ_=>true) false (λj hj=>?_) (Zd (by rw[hCn];simp))]
  ·rw[Zc (by simp)];show Ok (Qe2.bind λt83=>some t83) _;rw[QrP];exact Ok.mk rfl
  ·rw[Zc rfl,Zc (by simpa using hj),QI hj];have hz:=hCs _ (Zk hj);obtain⟨e1,e2,e3,e4⟩:=QyN (x:=C[j]);simp only[Za,QrL hz,QCc hz];rw[<-e1,<-e2,bne_self_eq_false,bne_self_eq_false,Zd (by decide),Qw hj (by omega)];by_cases h0:(whyR C[j]).2=0
   ·have hc:=e4 h0;rw[h0];simp only[opt,beq_self_eq_true,if_true,Za,Qon hz (show (whyR C[j]).1.length<=1000000 by omega),bne_self_eq_false,Bool.and_self,Qsl hz (show (whyR C[j]).1.length<=1000000 by omega),hc,Bool.or_self,Bool.and_false,ZB,if_false]
   ·have h1:((whyR C[j]).2==(0:Int))=false:=by simpa using h0
    rw[h1];simp[opt]
 obtain⟨r,hr,rfl⟩:=key;exact hr

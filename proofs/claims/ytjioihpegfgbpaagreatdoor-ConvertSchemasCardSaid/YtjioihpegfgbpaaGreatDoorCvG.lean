/- Steps one after the other. No condition. -/
import Derived.Test.YtjioihpegfgbpaaGreatDoorCvF
import Derived.Test.YtjioihpegfgbpaaGreatDoorCvS
set_option linter.all false
open List Go.IntKind
namespace Go.Proofs.YtjioihpegfgbpaaGreatDoor
open Go.Sim
theorem Qgc {x:Qa} {o:Qt} {s:Qs} {p:Qj} {N:Qa->Qn->Qj->Option Qa} (hm:Mid 500 x) (hs:RowS o.Op s N) (hF:QaR x (cvO o)=some (s,p,0)) (hG:QkY x o p N):
    ∃y p e,QbU x (cvO o)=some (y,p,e)/\Qbf x o=some (if e=0 then (y,0) else (Qjg,e))/\(e=0->Qdm y=0):=by
  obtain⟨K,R,h1,h2,h3⟩:=hG;obtain⟨n,hn,hv⟩:=hs.next;refine⟨⟨i64.wrap (x.Version+1),K,x.Xd,R⟩,p,Qdm ⟨i64.wrap (x.Version+1),K,x.Xd,R⟩,?_,?_,id⟩
  · unfold QbU;rw[hF];simp only[Za];rw[Zb (by simp),hm.copied (by decide)];simp only[Za];rw[hn];simp only[Za];rw[hv,h1];simp only[Za];rw[QjQ ((h3 _).short (by decide))];simp only[Za]
  · rw[h2,Qys ((h3 _).short (by decide))]
theorem QsG {x:Qa} (o:Qt) (hm:Mid 500 x):∃y p e,QbU x (cvO o)=some (y,p,e)/\Qbf x o=some (if e=0 then (y,0) else (Qjg,e))/\(e=0->Qdm y=0):=by
  have hsh:=hm.short (by decide);rcases found (o:=o) hsh.few hsh.rules with⟨e,he,s,p,hF,hW⟩ | ⟨s,k,q,N,hs,ho,hq,hF,hW,hO⟩ | ⟨s,k,j,q,f,N,hs,ho,hq,hf,hF,hW,hO⟩ | ⟨s,k,k',j,hs,ho,hj,hF,hW,hO⟩
  · refine⟨Qjg,p,e,?_,?_,λh=>absurd h he⟩
    · unfold QbU;rw[hF];simp only[Za];rw[Ze (by simpa using he)]
    · rw[Zb he];unfold Qbf;rcases hW with⟨k,f,hW⟩ | ⟨k,f,hW,hO⟩
      · rw[hW];simp only[Za];rw[Ze (by simpa using he)]
      · rw[hW];simp only[Za];rw[Zb (by simp),hO];simp only[Za];rw[Ze (by simpa using he)]
  · rcases ho with⟨h,rfl⟩ | ⟨h,rfl⟩
    · exact Qgc hm hs hF (gives0 hm h hq hW hO)
    · exact Qgc hm hs hF (gives6 hm h hq hW hO)
  · rcases ho with⟨h,rfl⟩ | ⟨h,rfl⟩ | ⟨h,rfl⟩ | ⟨h,rfl⟩
    · exact Qgc hm hs hF (gives1 hm h hq hf hW hO)
    · exact Qgc hm hs hF (gives2 hm h hq hf hW hO)
    · exact Qgc hm hs hF (gives3 hm h hq hf hW hO)
    · exact Qgc hm hs hF (gives4 hm h hq hf hW hO)
  · exact Qgc hm hs hF (gives5 hm ho hj hW hO)
theorem chain {l:List Qt} {bP:Int×List Qj×List Qa->Option ((Int×List Qj×List Qa)⊕((List Qj×List Qa)⊕((List Qa)×(List Qj)×Int)))}
    {bR:Int×List Qa->Option ((Int×List Qa)⊕(List Qa⊕((List Qa)×Int)))}
    (hP:∀k (h:k<l.length) (pl:List Qj) (ss:List Qa) (x y:Qa) p e,pl.length=k->ss.length=k+1->ss[k]?=some x->QbU x (cvO l[k])=some (y,p,e)->bP ((k:Int),pl,ss)=some (if e=0 then .inl (((k+1:Nat):Int),pl++[p],ss++[y]) else .inr (.inr ([],[],e))))
    (hR:∀k (h:k<l.length) (ss:List Qa) (x y:Qa) e,ss.length=k+1->ss[k]?=some x->Qbf x l[k]=some (if e=0 then (y,0) else (Qjg,e))->bR ((k:Int),ss)=some (if e=0 then .inl (((k+1:Nat):Int),ss++[y]) else .inr (.inr ([],e))))
    (eP:∀pl ss,bP ((l.length:Int),pl,ss)=some (.inr (.inl (pl,ss)))) (eR:∀ss,bR ((l.length:Int),ss)=some (.inr (.inl ss))):
    ∀n k (pl:List Qj) (ss:List Qa) (x:Qa),k+n=l.length->pl.length=k->ss.length=k+1->ss[k]?=some x->Qdm x=0->
      (∃e,e≠0/\Qz bP ((k:Int),pl,ss)=some (.inr ([],[],e))/\Qz bR ((k:Int),ss)=some (.inr ([],e)))\/
      ∃pl' ss' y,Qz bP ((k:Int),pl,ss)=some (.inl (pl',ss'))/\Qz bR ((k:Int),ss)=some (.inl ss')/\ss'[l.length]?=some y/\Qdm y=0:=by
  intro n
  induction n with
  | zero=>
    intro k pl ss x hk hp hs hx hc;have:k=l.length:=by omega
    subst this;exact .inr ⟨pl,ss,x,by rw[Qbc,eP],by rw[Qbc,eR],hx,hc⟩
  | succ n ih=>
    intro k pl ss x hk hp hs hx hc;have hlt:k<l.length:=by omega
    obtain⟨y,p,e,h1,h2,h3⟩:=QsG l[k] (Qk8 (Ql2 hc)).mid;rw[Qbc,Qbc bR,hP k hlt pl ss x y p e hp hs hx h1,hR k hlt ss x y e hs hx h2];by_cases he:e=0
    · rw[Ze he,Ze he];exact ih (k+1) (pl++[p]) (ss++[y]) y (by omega) (by simp[hp]) (by simp[hs]) (by rw[Zv (by omega),hs];simp) (h3 he)
    · rw[Zb he,Zb he];exact .inl ⟨e,he,rfl,rfl⟩
theorem QwK {x:Qa} {l:List Qt} (hm:Mid 500 x) (hc:Qdm x=0) (hl:¬(l.length:Int)>32):
    ∃bP:Int×List Qj×List Qa->Option ((Int×List Qj×List Qa)⊕((List Qj×List Qa)⊕((List Qa)×(List Qj)×Int))),
      QbJ x (l.map cvO)=(Qz bP ((0:Int),[],[x])).bind (λe=>match e with | .inl p45=>some (p45.2,p45.1,0) | .inr p48=>some (p48.1,p48.2.1,p48.2.2))/\
      (∀k (h:k<l.length) (pl:List Qj) (ss:List Qa) (x y:Qa) p e,pl.length=k->ss.length=k+1->ss[k]?=some x->QbU x (cvO l[k])=some (y,p,e)->bP ((k:Int),pl,ss)=some (if e=0 then .inl (((k+1:Nat):Int),pl++[p],ss++[y]) else .inr (.inr ([],[],e))))/\
      ∀pl ss,bP ((l.length:Int),pl,ss)=some (.inr (.inl (pl,ss))):=by
  unfold QbJ;rw[QjQ (hm.short (by decide)),hc];simp only[Za];rw[Zb (by simp),Zb (by simp;omega),hm.copied (by decide)];simp only[Za];refine⟨_,rfl,?_,?_⟩
  · intro k h pl ss x y p e hp hs hx ht;have hk:(ss.length:Int) - 1=(k:Int):=by omega
    rw[Ze (by simpa using h),Qdz (by rw[Yb,Zf h];rfl)];simp only[Za];rw[hk,w64 (by omega) (by omega),Qdz hx];simp only[Za];rw[ht];simp only[Za];by_cases he:e=0
    · rw[Zb (by simp[he]),Ze he,Qcx (by simp;omega),Qcx (by simp;omega),QT h (by omega)];rfl
    · rw[Ze (by simpa using he),Zb he]
  · intro pl ss;exact Zb (by simp)
theorem Qyu {x:Qa} {l:List Qt} (hm:Mid 500 x) (hc:Qdm x=0) (hl:¬(l.length:Int)>32):
    ∃bR:Int×List Qa->Option ((Int×List Qa)⊕(List Qa⊕((List Qa)×Int))),
      Qbx x l=(Qz bR ((0:Int),[x])).bind (λe=>match e with | .inl p36=>some (p36,0) | .inr p38=>some (p38.1,p38.2))/\
      (∀k (h:k<l.length) (ss:List Qa) (x y:Qa) e,ss.length=k+1->ss[k]?=some x->Qbf x l[k]=some (if e=0 then (y,0) else (Qjg,e))->bR ((k:Int),ss)=some (if e=0 then .inl (((k+1:Nat):Int),ss++[y]) else .inr (.inr ([],e))))/\
      ∀ss,bR ((l.length:Int),ss)=some (.inr (.inl ss)):=by
  unfold Qbx;rw[QkT (hm.short (by decide)),QkX hc];simp only[Za,Yi];rw[Zb (by simp),Zb (by simp;omega)];refine⟨_,rfl,?_,?_⟩
  · intro k h ss x y e hs hx ht;rw[Ze (by simpa using h),Qdz hx,Qaa h];simp only[Za];rw[ht];simp only[Za];by_cases he:e=0
    · rw[Ze he,Zb (by simp),Ze he,Qcx (by simp;omega),QT h (by omega)];rfl
    · rw[Zb he,Ze (by simpa using he),Zb he]
  · intro ss;exact Zb (by simp)
theorem all_is {x:Qa} (l:List Qt) (hm:Mid 500 x):
    (∃e,e≠0/\QbJ x (l.map cvO)=some ([],[],e)/\Qbx x l=some ([],e))\/∃pl ss y,QbJ x (l.map cvO)=some (ss,pl,0)/\Qbx x l=some (ss,0)/\ss[l.length]?=some y/\Qdm y=0:=by
  have hsh:=hm.short (by decide);have hR:Qbx x l=if Qdm x≠0 then some ([],Qdm x) else if (l.length:Int)>32 then some ([],4) else Qbx x l:=by
    by_cases hc:Qdm x=0
    · rw[Zb (by simpa using hc)];by_cases hl:(l.length:Int)>32
      · rw[Ze hl];unfold Qbx;rw[QkT hsh,QkX hc];simp only[Za,Yi];rw[Zb (by simp),Ze (decide_eq_true hl)]
      · rw[Zb hl]
    · rw[Ze hc];unfold Qbx;rw[QkT hsh];unfold Qdm at hc ⊢
      cases hl:Qfi x with
      | nil=>rw[hl] at hc;exact absurd rfl hc
      | cons p l=>simp only[Za];rw[Ze (by simp)];rfl
  rw[hR];by_cases hc:Qdm x=0
  · rw[Zb (by simpa using hc)];by_cases hl:(l.length:Int)>32
    · rw[Ze hl];refine .inl ⟨4,by decide,?_,rfl⟩;unfold QbJ;rw[QjQ hsh,hc];simp only[Za];rw[Zb (by simp),Ze (by simpa using hl)]
    · rw[Zb hl];obtain⟨bP,e1,p1,p2⟩:=QwK hm hc hl;obtain⟨bR,e2,r1,r2⟩:=Qyu hm hc hl;rw[e1,e2];rcases chain p1 r1 p2 r2 l.length 0 [] [x] x (by omega) rfl rfl rfl hc with⟨e,he,h1,h2⟩ | ⟨pl,ss,y,h1,h2,h3,h4⟩
      · refine .inl ⟨e,he,?_,?_⟩
        · exact (Zu (λo=>Option.bind o _) h1).trans rfl
        · exact (Zu (λo=>Option.bind o _) h2).trans rfl
      · refine .inr ⟨pl,ss,y,?_,?_,h3,h4⟩
        · exact (Zu (λo=>Option.bind o _) h1).trans rfl
        · exact (Zu (λo=>Option.bind o _) h2).trans rfl
  · rw[Ze hc];refine .inl ⟨Qdm x,hc,?_,rfl⟩;unfold QbJ;rw[QjQ hsh];simp only[Za];rw[Ze (by simpa using hc)]
theorem lossB (l:List Qt) (hl:l.length<=1000):Qbr (l.map cvO) (λx0=>Qd0 x0)=some (l.any λo=>o.Op==1):=by
  unfold Qbr Qcw;rw[QbV (l.map cvO) (λo=>o.Op==1) (λk hk=>?_) (by exact Zb (by simp))]
  · simp only[Za];rw[show (l.any λo=>o.Op==1)=((l.map cvO).any λo=>o.Op==1) by rw[any_map];rfl,<-QdR];unfold Qa3;cases (l.map cvO).findIdx? _<;>rfl
  · rw[Ze (by simpa using hk),Qaa hk];simp only[Za];rw[QT hk (by simp at hk ⊢;omega)];rfl
theorem QrJ {x:Qa} (l:List Qt) (hm:Mid 500 x) (hl:l.length<=1000):
    ∃y e b,Qbl x (l.map cvO)=some (y,e)/\Qe1 x l=some (y,e)/\QcS x (l.map cvO)=some (b,e)/\QgA x l=some (b,e)/\(y=Qjg\/Qko y):=by
  rcases all_is l hm with⟨e,he,h1,h2⟩ | ⟨pl,ss,y,h1,h2,h3,h4⟩
  · have hS:Qbl x (l.map cvO)=some (Qjg,e):=by
      unfold Qbl;rw[h1];simp only[Za];rw[Ze (by simpa using he)]
    refine⟨Qjg,e,false,hS,?_,?_,?_,.inl rfl⟩
    · unfold Qe1;rw[h2];simp only[Za];rw[Ze (by simpa using he)]
    · unfold QcS;rw[hS];simp only[Za];rw[Ze (by simpa using he)]
    · unfold QgA;rw[h2];simp only[Za];rw[Ze (by simpa using he)]
  · have hS:Qbl x (l.map cvO)=some (y,0):=by
      unfold Qbl;rw[h1];simp only[Za];rw[Zb (by simp),ZY,Qdz h3];rfl
    refine⟨y,0,l.any λo=>o.Op==1,hS,?_,?_,?_,.inr (Qk8 (Ql2 h4))⟩
    · unfold Qe1;rw[h2];simp only[Za];rw[Zb (by simp),Qdz h3];rfl
    · unfold QcS;rw[hS];simp only[Za];rw[Zb (by simp),lossB l hl];rfl
    · unfold QgA;rw[h2];simp only[Za];rw[Zb (by simp),QcV l (λo=>!(o.Op==1)) (true,(0:Int)) (λk hk=>?_) (by exact Zb (by simp))]
      · rw[show (l.all λo=>!(o.Op==1))=!(l.any λo=>o.Op==1) by rw[not_any_eq_all_not]];cases l.any λo=>o.Op==1<;>rfl
      · rw[Ze (by simpa using hk),Qaa hk];simp only[Za];rw[QT hk (by omega)];cases l[k].Op==1<;>rfl

/- The walk. No condition. -/
import Derived.Test.YtmhcoofnnmiejaaGreatDoorGenE
import Derived.Test.YtmhcoofnnmiejaaGreatDoorGenF
set_option linter.all false
open List Go.Proofs.Tryz Go.IntKind
namespace Go.Proofs.YtmhcoofnnmiejaaGreatDoor
noncomputable section
open Go.Sim
set_option maxRecDepth 100000
set_option maxHeartbeats 4000000
def Qhu (d:Qc) (b:Int) (a:Int):Option (Int):=(idx d.Xa b).bind λj=>(idx j.Xb a).bind λc=>(Qfw d b a).bind λh=>(if ((c.Xi==0)&&(decide (a>0)))=true then (some (13:Int)) else ((if (c.Xi==0)=true then (some (c.Xi==0)) else ((if (c.Xi==2)=true then (some (c.Xi==2)) else (some (c.Xi==3)))).bind λk=>(some k))).bind λl=>(if l=true then (some (0:Int)) else (jn (λ(_:Unit)=>(some (0:Int))) λe=>(if (c.Xi==1)=true then (if (decide (h<0))=true then (some (12:Int)) else (e ())) else (jn (λ(_:Unit)=>(e ())) λf=>(if (c.Xi==4)=true then (idx d.Xa b).bind λm=>(Qbi m c.Of).bind λg=>(if (c.Of==([]:Str))=true then (some (0:Int)) else (if ((decide (g<0))||(decide (g>=a)))=true then (some (12:Int)) else (idx d.Xa b).bind λn=>(idx n.Xb g).bind λo=>(if (o.Xi !=4)=true then (some (12:Int)) else (f ())))) else (if (c.Xi==5)=true then (Qr (λ(s0:Int)=>((if (decide (s0<(d.Xd.length:Int)))=true then (idx d.Xd s0).bind λp=>(if (p.Xj==c.Of)=true then (some (.inr (.inr (0:Int)))) else (some (.inl (i64.wrap (s0+1))))) else (some (.inr (.inl ())))):Option ((Int)⊕((Unit)⊕(Int))))) (0:Int)).bind λq=>(match q with | .inl _=>(some (12:Int)) | .inr r=>(some r)) else (if (c.Xi==6)=true then (Qif d b a).bind λi=>(if (decide (i.1<0))=true then (some (12:Int)) else (if ((i.2.length:Int) !=1)=true then (some (11:Int)) else (f ()))) else (Qi2 d b a h).bind λs=>(some s)))))))))
instance QE2:Spc3 prog 127 Qhu (λk e d=>[Qb.ty k,ti e,ti d]) ti:=.mk λ{k e d r} h=>by
 unfold Qhu at h
 refine Fe func127 ntmps127 λR M i a=>?_
 refine Qa 50 ?_
 have⟨_,_,A,_,h⟩:=bs2 h
 refine QU [v1 9 (λv0=>box (Qd.cs zz0) v0),v1 9 (λv0=>box (Qd.cs A) v0)] [10,11] 15360 λS=>?_
 refine Q1 (λ_ _ H=>((H.Xl 0 rfl).add 0 rfl (λ_ _ _ h=>h.2)).pick [0,3,4,5]) ?_
 have⟨_,_,h⟩:=bs h
 refine Qa 992 ?_
 refine tIfs h 8064 (λ_ h=>?_) λ_ h=>?_
 ·refine Qa 2 ?_
  exact Qp h (·▸Qn a)
 refine Qf λl B=>?_
 refine Qa 500 ?_
 refine Qk ?_
 refine Qf λm C=>?_
 refine Qa 508 ?_
 have⟨D,h0,h⟩:=bs h
 refine tJ0 [(40,tb D)] 2081153 [] 0 m ?_ λn=>?_
 ·refine C ?_
  refine Qo h (λ_ h=>?_) λ_ h=>?_
  ·refine Qa 2 ?_
   exact Qp h (·▸Qn a)
  refine Qa 1012 ?_
  obtain⟨f,b,h⟩:=QlT h
  have p:∀q,f q=some r->To M i 111 [] [] l:=by
   intro q h;rw[b] at h;clear b;refine B <|Qa 2 ?_;exact Qp h (·▸Qn a)
  clear b;refine Qo h (λ_ h=>?_) λ_ h=>?_
  ·refine Qa 4 ?_;refine Qo h (λ_ h=>?_) λ_ h=>?_
   ·refine Qa 2 ?_;exact Qp h (·▸Qn a)
   refine Qu <|Qx p h 0
  refine Qa 1012 ?_;obtain⟨g,c,h⟩:=QlT h;have s:∀t,g t=some r->To M i 111 [] [] l:=by
   intro t h;rw[c] at h;clear c;exact Qx p h 0
  clear c;refine Qo h (λ_ h=>?_) λ_ h=>?_
  ·have⟨_,_,_,_,h⟩:=bs2 h;refine Qa 123392 ?_;refine tIfs h 472 (λ_ h=>?_) λ_ h=>?_
   ·refine Qa 2 ?_;exact Qp h (·▸Qn a)
   refine tIfs h 3712 (λ_ h=>?_) λ_ h=>?_
   ·refine Qa 2 ?_;exact Qp h (·▸Qn a)
   have⟨_,_,_,_,h⟩:=bs2 h;refine Qa 2048 ?_;refine Qo h (λ_ h=>?_) λ_ h=>?_
   ·refine Qa 2 ?_;exact Qp h (·▸Qn a)
   refine Qu <|Qx s h 0
  refine Qa 1012 ?_;refine Qo h (λ_ h=>?_) λ_ h=>?_
  ·refine Qf λE F=>Qa 98 ?_;have⟨u,I,h⟩:=bs h;have K:∀v,(.inl v)=u->To M i 111 [] [] E:=by
    intro v j;subst j;simp only at h;refine F <|Qa 2 ?_;exact Qp h (·▸Qn a)
   refine tJr (λw=>[(6,ti w)]) 1 (λ_=>[]) 0 (.inr ·=u) (λw j=>?_) λL=>?_
   ·subst j;simp only at h;obtain rfl:=sj h;exact Qn a
   refine Qk <|Qaf I (λs0=>[(10,ti s0)]) 65921 (λs0=>[]) 0 14 ?_;clear h;intro s0 o T h x N;refine Qf λ_ O=>Qa 480 ?_;refine Qo h (λ_ h=>?_) λ_ h=>?_
   ·refine Qu <|O <|Qf λ_ P=>Qk ?_;have⟨_,_,h⟩:=bs h;refine Qa 14848 ?_;refine Qo h (λ_ h=>?_) λ_ h=>?_
    ·refine Qa 2 ?_;refine QaA ?_;exact Qx L (x _ (sj h).symm) 2
    refine Qu <|P <|QJ 104 ?_;exact Qx N ((sj h).symm) 14
   refine QQ <|Qx K (x _ (sj h).symm) 0
  refine Qa 932 ?_;refine Qo h (λ_ h=>?_) λ_ h=>?_
  ·have⟨_,_,h⟩:=bs h;refine Qa 768 ?_;refine tIfs h 20 (λ_ h=>?_) λ_ h=>?_
   ·refine Qa 2 ?_;exact Qp h (·▸Qn a)
   refine Qa 8 ?_;refine Qo h (λ_ h=>?_) λ_ h=>?_
   ·refine Qa 2 ?_;exact Qp h (·▸Qn a)
   refine Qu <|Qx s h 0
  have⟨_,_,h⟩:=bs h;refine Qa 64 ?_;exact Qp h (·▸Qn a)
 replace h:=h0;clear h0;refine Qo h (λ_ h=>?_) λ_ h=>?_
 ·refine Qu ?_;obtain rfl:=sj h;exact QN n 254
 refine Qa 508 ?_;have⟨Q,y,h⟩:=bs h;refine tJ0 [(40,tb Q)] 2081153 [] 0 m ?_ λz=>?_
 ·obtain rfl:=sj h;exact QN n 254
 replace h:=y;clear y;refine Qo h (λ_ h=>?_) λ_ h=>?_
 ·refine Qu ?_;obtain rfl:=sj h;exact QN z 254
 refine QJ 508 ?_;obtain rfl:=sj h;exact QN z 254
theorem Ql5:∀(n:Nat) (c:Qc) (b:Int) (a:Int) (r:Int),QlC n c b a=some r->FnOk prog 44 [Qb.ty c,ti b,ti a] [] (λ_=>[]) (λ_=>ti r)
 | 0,_,_,_,r,h=>by cases h
 | n+1,c,b,a,r,h=>QrS (λc b a r h=>Ql5 n c b a r h) h
def Qdx (c:Qc) (b:Int) (a:Int):Option (Int):=QlC (a.natAbs+2) c b a
theorem Qk2 {c:Qc} {b:Int} {a:Int} {r:Int} (h:Qdx c b a=some r):FnOk prog 44 [Qb.ty c,ti b,ti a] [] (λ_=>[]) (λ_=>ti r):=Ql5 _ _ _ _ _ h
instance :Spc3 prog 44 (λ(c:Qc) (b:Int) (a:Int)=>Qdx c b a) (λ(c:Qc) (b:Int) (a:Int)=>[Qb.ty c,ti b,ti a]) (λ(r:Int)=>ti r):=⟨λh=>Qk2 h⟩
def QcP (a:QaJ):Option (Bool):=(Qdx a.x a.kind a.field).bind λb=>(some (decide (b<0)))
instance Qxb:Spc1 prog 258 QcP (λb=>[Qa3.ty b]) tb:=.mk λ{b r} h=>by
 unfold QcP at h
 refine Fe func258 ntmps258 λc M d a=>?_
 refine Qa 2 ?_
 have⟨_,_,h⟩:=bs h
 refine Qa 512 ?_
 exact Qp h (·▸Qn a)
def Qe1 (a:QaJ):Option (Int):=(QcP a).bind λb=>(QaS [(Qaq.mk b 12)]).bind λc=>(some c)
instance QnA:Spc1 prog 262 Qe1 (λb=>[Qa3.ty b]) ti:=.mk λ{b r} h=>by
 unfold Qe1 at h
 refine Fe func262 ntmps262 λc M d a=>?_
 refine Qa 2 ?_
 have⟨_,_,_,_,h⟩:=bs2 h
 refine Qa 64 ?_
 exact Qp h (·▸Qn a)
def QeO (e:Qc) (a:Int) (b:Qe):Option (Int×(List Int)):=(QcE e b.Of).bind λc=>(if ((b.Xi !=6)||(decide (c<=a)))=true then (some ((-1:Int),([]:List Int))) else (idx e.Xa c).bind λf=>(Qr (λ(s0:Int×List Int)=>(if (decide (s0.1<(f.Xb.length:Int)))=true then (idx f.Xb s0.1).bind λd=>(opt (((d.Xi==7)&&(d.Of==b.Xj))==true) (Qdx e c s0.1) default).bind λg=>((if (((d.Xi==7)&&(d.Of==b.Xj))&&(g==a))=true then (rm (s0.2.length+[s0.1].length)).bind λ_=>(some (s0.2++[s0.1])) else (some s0.2))).bind λh=>(some (.inl ((i64.wrap (s0.1+1)),h))) else (some (.inr s0.2)))) ((0:Int),([]:List Int))).bind λi=>(some (c,i)))
instance QBn:Spc3 prog 93 QeO (λg a i=>[Qb.ty g,ti a,Qd.ty i]) (λr=>ttup [ti r.1,tsl rI r.2]):=.mk λ{g a i r} h=>by
 unfold QeO at h
 refine Fe func93 ntmps93 λC M l c=>?_
 refine Qa 70 ?_
 have⟨m,_,h⟩:=bs h
 refine Qa 480 ?_
 refine tIfs h 7936 (λ_ h=>?_) λ_ h=>?_
 ·refine Qa 6 ?_
  exact Qp h (·▸Qn c)
 refine Qa 122 ?_
 refine Q1 (λ_ _ H=>H.nil (rI) 3) ?_
 refine Qf λn p=>?_
 have⟨_,_,h⟩:=bs h
 refine Qa 16320 ?_
 have⟨q,h0,h⟩:=bs h
 have s:∀e f,e=q->To M l 61 [(9,tv f),(8,ti m)] [own rI 3 e f] n:=by
  intro e f t;subst t;refine p <|Qa 60 ?_;refine QaA ?_;refine Qan (by intro _ _ H;exact (H.Xn 2 rfl).pick [0,2]) ?_;obtain rfl:=sj h;exact Qn c
 refine Qk <|QaU h0 (λs0 b=>[(31,ti s0.1),(9,tv b)]) 4365299499394 (λs0 b=>[own rI 3 s0.2 b]) 1 (.slice none 0 0) 510 ?_;clear h;intro s0 b o D h u v;refine Qa 1022 ?_;refine Qf λ_ w=>Qo h (λ_ h=>?_) λ_ h=>?_
 ·refine Qu <|w <|Qf λx y=>Qk ?_;have⟨z,_,h⟩:=bs h;refine QU [v1 3 (λv0=>box (Qd.cs zz0) v0),v1 3 (λv0=>box (Qd.cs z) v0)] [4,6] 32688 λE=>?_;refine Q1 (λ_ _ H=>(((H.Xk [1,0] rfl).Xl 0 rfl).add 0 rfl (λ_ _ _ h=>h.2)).pick [0,3,4,5,6,7,8,9,10,11]) ?_;have⟨_,_,h⟩:=bs h;refine Qa 536084480 ?_;have⟨A,j,h⟩:=bs h;refine tJ1 (λd=>[(9,tv d)]) 4365846921729 (λd=>[own rI 3 A d]) 1 x (λd=>?_) λk=>?_
  ·refine y <|QJ 1020 ?_;exact Q7 v d ((sj h).symm) 9069186915533831
  replace h:=j;clear j;refine Qo h (λ_ h=>?_) λ_ h=>?_
  ·have⟨_,_,h⟩:=bs h;refine QaG [v1 3 (λv0=>own rI 3 (s0.2++[s0.1]) v0)] [4] 32560 λB=>?_;obtain rfl:=sj h;exact QN (k (B 3)) 1020
  refine Qu ?_;obtain rfl:=sj h;exact QN (k b) 11338717440639757
 refine QQ <|Q7 s b (u _ (sj h).symm) 96
def Qe4 (a:QaJ):Option (Int):=(QeO a.x a.kind a.f).bind λb=>(QaS [(Qaq.mk (decide (b.1<0)) 12),(Qaq.mk ((b.2.length:Int) !=1) 11)]).bind λc=>(some c)
instance QnD:Spc1 prog 266 Qe4 (λb=>[Qa3.ty b]) ti:=.mk λ{b r} h=>by
 unfold Qe4 at h
 refine Fe func266 ntmps266 λc M d a=>?_
 refine Qa 2 ?_
 have⟨_,_,h⟩:=bs h
 refine Qa 6144 ?_
 have⟨_,_,h⟩:=bs h
 refine Qa 1024 ?_
 exact Qp h (·▸Qn a)
def QdP (a:QaJ):Option (Qe×Bool):=(Qdx a.x a.kind a.field).bind λb=>(if (decide (b<0))=true then (some (zz0,false)) else (idx (a.x).Xa b).bind λd=>(Qa4 d (a.f).Of).bind λe=>(Qdw a.x b e).bind λc=>(some (c.1,c.2)))
instance QyR:Spc1 prog 268 QdP (λb=>[Qa3.ty b]) (λr=>ttup [Qd.ty r.1,tb r.2]):=.mk λ{b r} h=>by
 unfold QdP at h
 refine Fe func268 ntmps268 λe M f a=>?_
 refine QU [v1 1 (λv0=>box (Qd.cs zz0) v0)] [2] 6 λc=>?_
 have⟨_,_,h⟩:=bs h
 refine Qa 1792 ?_
 refine tIfs h 60 (λ_ h=>?_) λ_ h=>?_
 ·refine QU [v0 (box (Qd.cs zz0) (c 1))] [2] 68 λg=>?_
  exact Qp h (·▸Qn a)
 have⟨_,_,_,_,d,_,h⟩:=bs3 h
 refine QU [v0 (box (Qd.cs d.1) (c 1))] [17] 2228224 λi=>?_
 exact Qp h (·▸Qn a)
def Qe5 (b:QaJ):Option (Int):=(QdP b).bind λa=>(QcP b).bind λc=>(opt (((!a.2)||((a.1).Xi !=6))==false) (QcE b.x (a.1).Of) default).bind λd=>(QaS [(Qaq.mk c 12),(Qaq.mk (((!a.2)||((a.1).Xi !=6))||(d !=b.kind)) 13)]).bind λe=>(some e)
instance QnE:Spc1 prog 267 Qe5 (λb=>[Qa3.ty b]) ti:=.mk λ{b r} h=>by
 unfold Qe5 at h
 refine Fe func267 ntmps267 λd M e a=>?_
 refine Qa 2 ?_
 have⟨c,_,h⟩:=bs h
 refine QU [v1 5 (λv0=>box (Qd.cs zz0) v0),v1 5 (λv0=>box (Qd.cs c.1) v0)] [6,7] 448 λf=>?_
 refine Q1 (λ_ _ H=>((H.Xl 0 rfl).add 0 rfl (λ_ _ _ h=>h.2)).pick [0,3,4]) ?_
 have⟨_,_,_,_,_,_,h⟩:=bs3 h
 refine Qa 16777216 ?_
 exact Qp h (·▸Qn a)
def Qe6 (b:QaJ):Option (Int):=(QdP b).bind λa=>(QcP b).bind λc=>(QaS [(Qaq.mk c 12),(Qaq.mk ((!a.2)||(!((((((a.1).Xi==2)||((a.1).Xi==3))||((a.1).Xi==4))||((a.1).Xi==5))||((a.1).Xi==8)))) 13)]).bind λd=>(some d)
instance QnF:Spc1 prog 269 Qe6 (λb=>[Qa3.ty b]) ti:=.mk λ{b r} h=>by
 unfold Qe6 at h
 refine Fe func269 ntmps269 λd M e a=>?_
 refine Qa 2 ?_
 have⟨c,_,h⟩:=bs h
 refine QU [v1 5 (λv0=>box (Qd.cs zz0) v0),v1 5 (λv0=>box (Qd.cs c.1) v0)] [6,7] 448 λf=>?_
 refine Q1 (λ_ _ H=>((H.Xl 0 rfl).add 0 rfl (λ_ _ _ h=>h.2)).pick [0,3,4]) ?_
 refine Qa 218103808 ?_
 have⟨_,_,_,_,h⟩:=bs2 h
 refine Qa 8192 ?_
 exact Qp h (·▸Qn a)
def Qcm (i:Int):Option (QaJ->Option Int):=if i=0 then some Qe0 else if i=1 then some Qe1 else if i=4 then some Qe2 else if i=5 then some Qe3 else if i=6 then some Qe4 else if i=7 then some Qe5 else if i=8 then some Qe6 else none
theorem QyS {Γ:List (Nat×Ty)} {d:Option Tmp} {ty:TypeId} {pos:String} {af:Array Edge} {g:Option (Nat×Bool)} {x y:Operand} {i:Int} (hx:Fct Γ x QxD) (hi:Fct Γ y (tv (.int .i64 i))):
  OpJ prog ⟨d,.lookup 244 x y true,ty,pos,af,g⟩ Γ [] [] (λ_=>[]) (λ_=>ttup [Qde.ty (QcB.mk (Qcm i)),tv (.bool (Qcm i).isSome)]):=by
 have key:(QcS QjJ i).isSome=(Qcm i).isSome/\∀F w,(Qde.ty (QcB.mk (Qcm i))).ok F w ((QcS QjJ i).getD (.agg #[.nilFunc])):=by
  unfold Qcm;by_cases h0:i=0
  ·subst h0;exact⟨rfl,λF w=>⟨_,rfl,.cons ⟨261,[],[],[],[],rfl,.nil,.nil,Qva,λ_ _ a=>Qnz.ok a⟩ .nil⟩⟩
  by_cases b:i=1
  ·subst b;exact⟨rfl,λF w=>⟨_,rfl,.cons ⟨262,[],[],[],[],rfl,.nil,.nil,Qvb,λ_ _ a=>QnA.ok a⟩ .nil⟩⟩
  by_cases c:i=4
  ·subst c;exact⟨rfl,λF w=>⟨_,rfl,.cons ⟨263,[],[],[],[],rfl,.nil,.nil,Qvc,λ_ _ a=>QnB.ok a⟩ .nil⟩⟩
  by_cases e:i=5
  ·subst e;exact⟨rfl,λF w=>⟨_,rfl,.cons ⟨264,[],[],[],[],rfl,.nil,.nil,Qvd,λ_ _ a=>QnC.ok a⟩ .nil⟩⟩
  by_cases f:i=6
  ·subst f;exact⟨rfl,λF w=>⟨_,rfl,.cons ⟨266,[],[],[],[],rfl,.nil,.nil,Qve,λ_ _ a=>QnD.ok a⟩ .nil⟩⟩
  by_cases j:i=7
  ·subst j;exact⟨rfl,λF w=>⟨_,rfl,.cons ⟨267,[],[],[],[],rfl,.nil,.nil,Qvf,λ_ _ a=>QnE.ok a⟩ .nil⟩⟩
  by_cases k:i=8
  ·subst k;exact⟨rfl,λF w=>⟨_,rfl,.cons ⟨269,[],[],[],[],rfl,.nil,.nil,Qvg,λ_ _ a=>QnF.ok a⟩ .nil⟩⟩
  simp only[QcS,QjJ,Zb h0,Zb b,Zb c,Zb e,Zb f,Zb j,Zb k];exact⟨rfl,λF w=>⟨_,rfl,.cons rfl .nil⟩⟩
 have h:=QAr (P:=prog) (Γ:=Γ) (d:=d) (ty:=ty) (pos:=pos) (af:=af) (g:=g) (V:=λ_=>Qde.ty (QcB.mk (Qcm i))) underlying244 ud3 zv242 hx hi key.2;rw[key.1] at h;exact h
def QeP (d:Qc) (a:Int) (b:Int):Option (Int×Int):=(Qdw d a b).bind λe=>(if (!e.2)=true then (some ((-1:Int),(-1:Int))) else (QeO d a e.1).bind λc=>(if ((c.2.length:Int) !=1)=true then (some ((-1:Int),(-1:Int))) else (idx c.2 0).bind λf=>(some (c.1,f))))
instance QBo:Spc3 prog 54 QeP (λd b a=>[Qb.ty d,ti b,ti a]) (λr=>ttup [ti r.1,ti r.2]):=.mk λ{d b a r} h=>by
 unfold QeP at h
 refine Fe func54 ntmps54 λf M g c=>?_
 refine Qa 98 ?_
 have⟨e,_,h⟩:=bs h
 refine QU [v1 7 (λv0=>box (Qd.cs zz0) v0),v1 7 (λv0=>box (Qd.cs e.1) v0)] [8,9] 3840 λi=>?_
 refine Q1 (λ_ _ H=>((H.Xl 0 rfl).add 0 rfl (λ_ _ _ h=>h.2)).pick [0,3,4,5]) ?_
 refine tIfs h 108 (λ_ h=>?_) λ_ h=>?_
 ·refine Qa 6 ?_
  exact Qp h (·▸Qn c)
 have⟨_,_,h⟩:=bs h
 refine Qa 768 ?_
 refine tIfs h 56 (λ_ h=>?_) λ_ h=>?_
 ·refine Qa 6 ?_
  exact Qp h (·▸Qn c)
 have⟨_,_,h⟩:=bs h
 refine Qa 96 ?_
 exact Qp h (·▸Qn c)
def Qd7 (d:QaB) (a:Int) (g:Int) (b:Int):Option (Int):=(QeP d.x a b).bind λc=>(idx (d.x).Xa c.1).bind λh=>(idx (d.x).Xa c.1).bind λi=>(idx i.Xb c.2).bind λj=>(Qa4 h j.Up).bind λe=>(Qek (Qh.mk c.1 e a)).bind λ_=>(idx ((QbF d.refs (Qh.mk c.1 e a)).getD ([]:(List (List Int)))) g).bind λf=>(Qr (λ(s0:Int×Int)=>(if (decide (s0.1<(f.length:Int)))=true then (idx f s0.1).bind λk=>(idx d.w c.1).bind λl=>(idx l k).bind λm=>(idx m c.2).bind λn=>(some (.inl ((i64.wrap (s0.1+1)),(i64.wrap (s0.2+n))))) else (some (.inr s0.2)))) ((0:Int),(0:Int))).bind λo=>(some o)
instance Qwy:Spc4 prog 114 Qd7 (λg a j b=>[tptr (Qbv.cs g),ti a,ti j,ti b]) ti:=.mk λ{g a j b r} h=>by
 unfold Qd7 at h
 refine Fe func114 ntmps114 λy M k e=>?_
 refine Qa 60 ?_
 have⟨c,_,h⟩:=bs h
 refine Qa 63488 ?_
 have⟨_,h0,h⟩:=bs h
 replace h:=bk h0 h
 have⟨_,_,d,_,h⟩:=bs2 h
 refine QU [v1 25 (λv0=>box (QF.cs (Qh.mk (0:Int) (0:Int) (0:Int))) v0),v1 25 (λv0=>box (QF.cs (Qh.mk c.1 d a)) v0)] [26,27] 3154116608 λz=>?_
 refine Q1 (λ_ _ H=>((H.Xl 0 rfl).add 0 rfl (λ_ _ _ h=>h.2)).pick [0,3,4,5,6]) ?_
 refine Qa 126 ?_
 refine Qf λl m=>?_
 have⟨_,n,_,_,h⟩:=bs2 h
 refine Qa 122368 ?_ (λ_=>by refine' pr 5 ?_;refine' rx (.p rfl (Qnn (x0:=([]:(List (List Int)))) (i:=(Qh.mk c.1 d a)) (Qiz n) underlying162 QqA QbR zok40 z1 (Fct.ints [((Qh.mk c.1 d a)).kind,((Qh.mk c.1 d a)).field,((Qh.mk c.1 d a)).to] z0))) 5 ?_;exact rnn)
 have⟨p,q,h⟩:=bs h
 have s:∀f,f=p->To M k 81 [(12,ti f)] [] l:=by
  intro f t;subst t;refine m <|Qa 4 ?_;exact Qp h (·▸Qn e)
 refine Qk <|Qaf q (λs0=>[(60,ti s0.1),(12,ti s0.2)]) 4365299499394 (λs0=>[]) 0 254 ?_;clear h;intro s0 o A h u v;refine Qa 510 ?_;refine Qf λ_ w=>Qo h (λ_ h=>?_) λ_ h=>?_
 ·refine Qu <|w <|Qf λ_ x=>Qk ?_;have⟨_,_,h⟩:=bs h;refine Qa 4072 ?_;have⟨_,_,_,_,_,_,h⟩:=bs3 h;refine QJ 16580608 ?_;refine x <|QJ 508 ?_;exact Qx v ((sj h).symm) 61987660792839
 refine QQ <|Qx s (u _ (sj h).symm) 32
def QfO (b:QaB) (a:Int) (d:(List Int)) (e:Qe):Option (Int×Int):=(idx (b.x).Xa a).bind λf=>(Qa4 f e.Up).bind λc=>(Qdx b.x a c).bind λg=>(idx d c).bind λh=>(some (g,h))
instance Qxd:Spc4 prog 115 QfO (λc a d e=>[tptr (Qbv.cs c),ti a,tsl rI d,Qd.ty e]) (λr=>ttup [ti r.1,ti r.2]):=.mk λ{c a d e r} h=>by
 unfold QfO at h
 refine Fe func115 ntmps115 λf M g b=>?_
 refine Qa 114 ?_
 have⟨_,_,_,_,h⟩:=bs2 h
 refine Qa 118784 ?_
 have⟨_,_,_,_,h⟩:=bs2 h
 refine Qa 12288 ?_
 exact Qp h (·▸Qn b)
def Qg0 (b:(List (List Int))) (a:(List Int)):Option (Int×Int×Int):=(opt (((decide ((i64.wrap ((b.length:Int) - 1))<0))||(decide ((i64.wrap ((b.length:Int) - 1))>10)))==false) (QaO a (λx0=>Qcu x0)) default).bind λk=>(opt ((((decide ((i64.wrap ((b.length:Int) - 1))<0))||(decide ((i64.wrap ((b.length:Int) - 1))>10)))||k)==false) (Qbq b (λx0=>QfB x0 (i64.wrap ((b.length:Int) - 1)) (λx0=>Qcu x0))) default).bind λo=>(if ((((decide ((i64.wrap ((b.length:Int) - 1))<0))||(decide ((i64.wrap ((b.length:Int) - 1))>10)))||k)||o)=true then (some ((0:Int),(0:Int),(1:Int))) else (if (decide ((a.length:Int)>=(i64.wrap ((b.length:Int) - 1))))=true then (some ((0:Int),(0:Int),(6:Int))) else (QbE a).bind λg=>(rm (g.length+[(0:Int)].length)).bind λ_=>(Qr (λ(s0:Int×List Int×List Int)=>(if (decide (s0.1<((g++[(0:Int)]).length:Int)))=true then (idx (g++[(0:Int)]) s0.1).bind λd=>((if (s0.1==(a.length:Int))=true then (some (i64.wrap ((b.length:Int) - 1))) else (some s0.1))).bind λe=>(idx b e).bind λp=>(idx p (a.length:Int)).bind λq=>((if (decide (q<1099511627776))=true then (idx b e).bind λr=>(idx r (a.length:Int)).bind λl=>(rm (s0.2.2.length+[(i64.wrap (d - l))].length)).bind λ_=>(some (s0.2.2++[(i64.wrap (d - l))])) else (some s0.2.2))).bind λs=>(idx b (a.length:Int)).bind λt=>(idx t e).bind λu=>((if (decide (u<1099511627776))=true then (idx b (a.length:Int)).bind λh=>(idx h e).bind λc=>(rm (s0.2.1.length+[(i64.wrap (d+c))].length)).bind λ_=>(some (s0.2.1++[(i64.wrap (d+c))])) else (some s0.2.1))).bind λv=>(some (.inl ((i64.wrap (s0.1+1)),v,s))) else (some (.inr (s0.2.1,s0.2.2))))) ((0:Int),([]:List Int),([]:List Int))).bind λf=>((if (decide ((f.2.length:Int)>0))=true then (Qeh f.2).bind λi=>(some i) else (some (-1099511627776:Int)))).bind λm=>((if (decide ((f.1.length:Int)>0))=true then (Qei f.1).bind λj=>(some j) else (some (1099511627776:Int)))).bind λn=>(if (decide (m>n))=true then (some ((0:Int),(0:Int),(14:Int))) else (some (m,n,(0:Int))))))
instance Qp7:Spc2 prog 46 Qg0 (λg b=>[tsl (rSl rI) g,tsl rI b]) (λr=>ttup [ti r.1,ti r.2.1,ti r.2.2]):=.mk λ{g b r} h=>by
 unfold Qg0 at h
 refine Fe func46 ntmps46 λM0 M p c=>?_
 refine Qa 48 ?_
 refine QU [v1 5 (λv0=>box (rI.cs (0:Int)) v0),v1 5 (λv0=>box (rI.cs (i64.wrap ((g.length:Int) - 1))) v0)] [6,7] 960 λm0=>?_
 refine Q1 (λ_ _ H=>((H.Xl 0 rfl).add 0 rfl (λ_ _ _ h=>h.2)).pick [0,3,4,5]) ?_
 refine QU [v1 0 (λv0=>box [tvs .nilFunc] v0),v1 0 (λv0=>box (QhY.cs (λx0=>Qcu x0)) v0)] [1,2] 62 (λm1=>?_) (λ_=>by refine' rx (.m [] [0] rfl rfl rfl (QaL (R:=rVal) (a:=.nilFunc) Qs5 zokPf)) 1 ?_;exact rnn)
 refine Q1 (λ_ _ H=>((H.Xl 0 rfl).add 0 rfl (λ_ _ _ h=>h.2)).pick [0,3,4,5,6]) ?_
 have⟨_,_,_,_,h⟩:=bs2 h
 refine tIfs h 3997696 (λ_ h=>?_) λ_ h=>?_
 ·refine Qa 14 ?_
  exact Qp h (·▸Qn c)
 refine tIfs h 488 (λ_ h=>?_) λ_ h=>?_
 ·refine Qa 14 ?_
  exact Qp h (·▸Qn c)
 refine Qa 246 ?_
 refine Q1 (λ_ _ H=>(H.nil (rI) 3).nil (rI) 3) ?_
 refine Qf λE F=>?_
 have⟨I,_,_,h0,h⟩:=bs2 h
 refine QF6 (Γ':=[(10,tv (.slice none 0 0)),(11,tv (.slice none 0 0)),(7,tptr (rI.cs (i64.wrap ((g.length:Int) - 1)))),(8,ti (b.length:Int)),(0,tsl (rSl rI) g),(1,tsl rI b)]) ?_
 refine QU [v1 1 (λv0=>own rI 3 I v0)] [2] 4080 (λm2=>?_) (λ_=>by refine' pr 3 ?_;refine' rx (.e [] [2] [] rfl rfl rfl rfl (.roE (Qbr (R:=rI) ud22 tok3 (leb rfl) z1 z0 h0))) 2 ?_;exact rnn)
 have⟨K,L,h⟩:=bs h
 have N:∀d k l,d=K->To M p 110 [(10,tv l),(11,tv k)] [own rI 3 d.1 k,own rI 3 d.2 l] E:=by
  intro d k l O;subst O;refine F <|Qa 30 ?_;refine Qf λP Q=>Qa 250 ?_;have⟨q,s,h⟩:=bs h;refine tJ0 [(14,ti q)] 115329 [] 2 P ?_ λt=>?_
  ·refine Q <|Qf λS T=>Qa 122 ?_;have⟨U,u,h⟩:=bs h;have v:To M p 110 [(15,ti U),(14,ti q)] [] S:=by
    refine T <|tIfs h 56 (λ_ h=>?_) λ_ h=>?_
    ·refine Qa 14 ?_;exact Qp h (·▸Qn c)
    refine Qa 56 ?_;exact Qp h (·▸Qn c)
   replace h:=u;clear u;refine QgJ 1 (λm=>?_) λm=>?_
   ·replace h:=QhV m h;have⟨_,V,h⟩:=bs h;refine QJ 218 ?_ (λ_=>by refine' pr 1 ?_;refine' rx (.u [0] rfl rfl (Qb2 [own rI 3 d.1 k] QyA (QoG.ok V) (.cons (.own z0 (.head _))<|.nil) (λ_=>Qa8) (λ_=>Qib (x:=undef)))) 1 ?_;exact rnn);obtain rfl:=sj h;refine Qan (λ_ _ H=>(H.pick [1,3]).Xk [] rfl) ?_;exact QN v 6
   replace h:=QhW m h;refine Qu ?_;obtain rfl:=sj h;refine Qan (λ_ _ H=>(H.pick [3,2]).Xk [] rfl) ?_;exact QN v 6
  replace h:=s;clear s;refine QgJ 1 (λn=>?_) λn=>?_
  ·replace h:=QhV n h;have⟨_,W,h⟩:=bs h;refine QJ 474 ?_ (λ_=>by refine' pr 1 ?_;refine' rx (.u [1] rfl rfl (Qb2 [own rI 3 d.2 l] Qyz (QoF.ok W) (.cons (.own z0 (.head _))<|.nil) (λ_=>Qa8) (λ_=>Qib (x:=undef)))) 1 ?_;exact rnn);obtain rfl:=sj h;refine Qan (λ_ _ H=>(H.pick [1,3,5]).Xk [0] rfl) ?_;exact QN t 14
  replace h:=QhW n h;refine Qu ?_;obtain rfl:=sj h;refine Qan (λ_ _ H=>(H.pick [2,3,5]).Xk [0] rfl) ?_;exact QN t 14
 refine Qk <|QpX L (λs0 e f=>[(45,ti s0.1),(10,tv f),(11,tv e)]) 558792695628162 (λs0 e f=>[own rI 3 s0.2.1 e,own rI 3 s0.2.2 f]) 129 (.slice none 0 0) (.slice none 0 0) 510 ?_;clear h;intro s0 e f o K3 h X Y;refine Qa 1022 ?_;refine Qf λ_ Z=>Qo h (λ_ h=>?_) λ_ h=>?_
 ·refine Qu <|Z <|Qf λK4 k5=>Qk ?_;have⟨w,_,h⟩:=bs h;refine Qa 32688 ?_;refine Qf λK5 k6=>Qa 16376 ?_;have⟨p3,y,h⟩:=bs h;refine tJ0 [(12,ti p3)] 2081281 [] 127 K5 ?_ λz=>?_
  ·refine k6 <|Qf λK6 k7=>?_;have⟨_,_,_,_,h⟩:=bs2 h;refine Qa 524032 ?_;have⟨p4,A,h⟩:=bs h;refine tJ1 (λi=>[(10,tv i)]) 71534468642439553 (λi=>[own rI 3 p4 i]) 130 K6 (λi=>?_) λB=>?_
   ·refine k7 ?_;have⟨_,_,_,_,h⟩:=bs2 h;refine Qa 524032 ?_;have⟨p5,C,h⟩:=bs h;refine tJ1 (λj=>[(11,tv j)]) 558897666556289 (λj=>[own rI 3 p5 j]) 131 K4 (λj=>?_) λD=>?_
    ·refine k5 <|QJ 1020 ?_;refine Qan (λ_ _ H=>(H.pick [3,4,0,2,1,5,6,7]).Xk [1,0] rfl) ?_;exact Qhq Y j i ((sj h).symm) 510
    replace h:=C;clear C;refine Qo h (λ_ h=>?_) λ_ h=>?_
    ·have⟨_,_,t2,_,_,_,h⟩:=bs3 h;refine QaG [v1 11 (λv0=>own rI 3 (s0.2.1++[(i64.wrap (w+t2))]) v0)] [12] 16560128 λm3=>?_;obtain rfl:=sj h;exact QN (D (m3 11)) 1020
    refine Qu ?_;obtain rfl:=sj h;refine Qan (λ_ _ H=>(H.pick [7,1,4,5,6,8,9,10]).Xk [1,0] rfl) ?_;exact QN (D e) 510
   replace h:=A;clear A;refine Qo h (λ_ h=>?_) λ_ h=>?_
   ·have⟨_,_,t3,_,_,_,h⟩:=bs3 h;refine QaG [v1 11 (λv0=>own rI 3 (s0.2.2++[(i64.wrap (w - t3))]) v0)] [12] 16756736 λm4=>?_;obtain rfl:=sj h;exact QN (B (m4 11)) 4092
   refine Qu ?_;obtain rfl:=sj h;exact QN (B f) 204365540574487478799
  replace h:=y;clear y;refine Qo h (λ_ h=>?_) λ_ h=>?_
  ·refine QJ 8180 ?_;obtain rfl:=sj h;exact QN z 2046
  refine Qu ?_;obtain rfl:=sj h;exact QN z 4092
 refine QQ <|Qhq N e f (X _ (sj h).symm) 96

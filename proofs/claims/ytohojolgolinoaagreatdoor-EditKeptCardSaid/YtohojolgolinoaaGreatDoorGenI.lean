/- The walk. No condition. -/
import Derived.Test.YtohojolgolinoaaGreatDoorGenE
import Derived.Test.YtohojolgolinoaaGreatDoorGenG
set_option linter.all false
open List Go.Proofs.Tryz Go.IntKind
namespace Go.Proofs.YtohojolgolinoaaGreatDoor
noncomputable section
open Go.Sim
set_option maxRecDepth 100000
set_option maxHeartbeats 4000000
def L8 (a:Qe):Option Bool:=(Da a.Xi).bind λb=>(opt (((decide (a.Xi<0))||(decide (a.Xi>=9)))==false) (DQ a.Xj) default).bind λe=>(if (((((((decide (a.Xi<0))||(decide (a.Xi>=9)))||(!e))||((!b.1)&&(a.Of !=([]:Str))))||((!b.2.1)&&(a.Up !=([]:Str))))||((!b.2.2.1)&&(a.Lo !=0)))||((!b.2.2.2.1)&&(a.Hi !=0)))||((!b.2.2.2.2)&&(decide ((i64.wrap ((a.Words.length:Int)+(a.Xf.length:Int)))>0))) then some false else (opt (b.1==true) (DQ a.Of) default).bind λd=>(opt ((((b.1&&(!d))&&((a.Xi !=4)||(a.Of !=([]:Str))))==false)&&(b.2.1==true)) (DQ a.Up) default).bind λf=>(if ((b.1&&(!d))&&((a.Xi !=4)||(a.Of !=([]:Str))))||(b.2.1&&(!f)) then some false else if a.Xi==0 then (C4 a.Lo (-1048576) 1048576).bind λg=>some g else if a.Xi==1 then (Fl a.Lo a.Hi 0 65536).bind λh=>some h else if a.Xi==2 then (Fl a.Lo a.Hi (-1048576) 1048576).bind λi=>some i else if a.Xi==4 then (Fl a.Lo a.Hi (-1048576) 1048576).bind λj=>some j else if a.Xi==5 then (Fl a.Lo a.Hi 0 32).bind λk=>some k else if a.Xi==7 then (Fl a.Lo a.Hi 0 1048576).bind λl=>some l else if a.Xi==3 then (L7 a).bind λc=>some c else some true))
instance uZ:Spc1 prog 223 L8 (λb=>[Qd.ty b]) tb:=.mk λ{b r} h=>by
 refine Fe func223 ntmps223 λd M e a=>?_
 apply Qa 2
 have⟨_,_,_,_,h⟩:=bs2 h
 apply Qa 64512
 refine tIfs h 1309718829233378164736 (λ_ h=>?_) λ_ h=>?_
 ·apply Qa 2
  exact tRE h a
 have⟨_,_,_,_,h⟩:=bs2 h
 refine tIfs h 1140850688 (λ_ h=>?_) λ_ h=>?_
 ·apply Qa 2
  exact tRE h a
 refine Qf λ_ c=>?_
 apply Qa 20
 apply Qk
 apply Qa 28
 apply Qo h<;>intro _ h
 ·have⟨_,_,h⟩:=bs h
  apply Qa 16
  exact tRE h a
 apply Qa 52
 apply Qo h<;>intro _ h
 ·have⟨_,_,h⟩:=bs h
  apply Qa 64
  exact tRE h a
 apply Qa 52
 apply Qo h<;>intro _ h
 ·have⟨_,_,h⟩:=bs h
  apply Qa 64
  exact tRE h a
 apply Qa 52
 apply Qo h<;>intro _ h
 ·have⟨_,_,h⟩:=bs h
  apply Qa 64
  exact tRE h a
 apply Qa 52
 apply Qo h<;>intro _ h
 ·have⟨_,_,h⟩:=bs h
  apply Qa 64
  exact tRE h a
 apply Qa 52
 apply Qo h<;>intro _ h
 ·have⟨_,_,h⟩:=bs h
  apply Qa 64
  exact tRE h a
 apply Qa 36
 apply Qo h<;>intro _ h
 ·have⟨_,_,h⟩:=bs h
  apply Qa 8
  exact tRE h a
 apply Qu
 apply c
 apply Qa 2
 exact tRE h a
def L9 (a:QA):Option Bool:=(DQ a.Xj).bind λb=>(opt ((!b)==false) (Fl a.Lo a.Hi 0 65536) default).bind λc=>(if ((!b)||(!c))||(decide ((a.Xb.length:Int)>10)) then some false else (Qr (λ(s0:Int)=>((if decide (s0<(a.Xb.length:Int)) then (idx a.Xb s0).bind λd=>(L8 d).bind λe=>if !e then some (.inr (.inr false)) else some (.inl (i64.wrap (s0+1))) else some (.inr (.inl ()))):Option (Int⊕(Unit⊕Bool)))) 0).bind λf=>(match f with | .inl _=>(some true) | .inr g=>some g))
instance uQ:Spc1 prog 188 L9 (λc=>[Qq.ty c]) tb:=.mk λ{c r} h=>by
 refine Fe func188 ntmps188 λs M i a=>?_
 apply Qa 2
 have⟨_,_,_,_,h⟩:=bs2 h
 refine tIfs h 786432 (λ_ h=>?_) λ_ h=>?_
 ·apply Qa 2
  exact tRE h a
 refine Qf λj k=>?_
 apply Qa 10
 have⟨d,h0,h⟩:=bs h
 have l:∀e,(.inl e)=d->To M i 36 [] [] j:=by
  intro e b;subst b;simp only at h;refine k <|Qa 2 ?_;exact tRE h a
 refine tJr (λf=>[(2,tb f)]) 1 (λ_=>[]) 0 (.inr ·=d) (λf b=>?_) λm=>?_
 ·subst b;simp only at h;exact oRE h a
 refine Qk <|AC h0 (λs0=>[(3,ti s0)]) 385 (λs0=>[]) 0 6 ?_;intro s0 o t h g n;refine Qf λ_ p=>Qa 224 ?_;apply Qo h<;>intro _ h
 ·refine Qu <|p <|Qf λ_ q=>Qk ?_;have⟨_,_,_,_,h⟩:=bs2 h;apply Qa 1664;apply Qo h<;>intro _ h
  ·apply Qa 2;apply AG;exact Qx m (g _ (sy h)) 2
  refine Qu <|q <|QJ 40 ?_;exact Qx n (sy h) 6
 refine QQ <|Qx l (g _ (sy h)) 0
def M1 (d:Qc) (b:Int) (a:Int):Option Int:=(idx d.Xa b).bind λj=>(idx j.Xb a).bind λc=>(Fu d b a).bind λh=>if (c.Xi==0)&&(decide (a>0)) then some 13 else (if c.Xi==0 then some (c.Xi==0) else (if c.Xi==2 then some (c.Xi==2) else some (c.Xi==3)).bind λk=>some k).bind λl=>if l then some 0 else jn (λ(_:Unit)=>some 0) λe=>if c.Xi==1 then if decide (h<0) then some 12 else e () else jn (λ(_:Unit)=>e ()) λf=>if c.Xi==4 then (idx d.Xa b).bind λm=>(FA m c.Of).bind λg=>if c.Of==([]:Str) then some 0 else (if (decide (g<0))||(decide (g>=a)) then some 12 else (idx d.Xa b).bind λn=>(idx n.Xb g).bind λo=>if o.Xi !=4 then some 12 else f ()) else if c.Xi==5 then (Qr (λ(s0:Int)=>((if decide (s0<(d.Xd.length:Int)) then (idx d.Xd s0).bind λp=>if p.Xj==c.Of then some (.inr (.inr 0)) else some (.inl (i64.wrap (s0+1))) else some (.inr (.inl ()))):Option (Int⊕(Unit⊕Int)))) 0).bind λq=>(match q with | .inl _=>(some 12) | .inr r=>some r) else if c.Xi==6 then (Mm d b a).bind λi=>if decide (i.1<0) then some 12 else if (i.2.length:Int) !=1 then some 11 else f () else (Pi d b a h).bind λs=>some s
instance u6:Spc3 prog 151 M1 (λk e d=>[Qb.ty k,ti e,ti d]) ti:=.mk λ{k e d r} h=>by
 refine Fe func151 ntmps151 λQ M i a=>?_
 apply Qa 50
 have⟨_,_,z,_,_,_,h⟩:=bs3 h
 refine QU [vb 9 (Qd.cs zz0),vb 9 (Qd.cs z)] [10,11] 15360 λR=>?_
 apply tFz 0
 apply Qa 992
 refine tIfs h 8064 (λ_ h=>?_) λ_ h=>?_
 ·apply Qa 2
  exact tRE h a
 refine Qf λl A=>?_
 apply Qa 500
 apply Qk
 refine Qf λm B=>?_
 apply Qa 508
 have⟨C,h0,h⟩:=bs h
 refine tJ0 [(40,tb C)] 2081153 [] 0 m ?_ λn=>?_
 ·apply B
  apply Qo h<;>intro _ h
  ·apply Qa 2
   exact tRE h a
  apply Qa 1012
  have⟨f,b,h⟩:=JL h
  have p:∀q,f q=some r->To M i 111 [] [] l:=by
   intro q h;rw[b] at h;clear b;refine A <|Qa 2 ?_;exact tRE h a
  clear b;apply Qo h<;>intro _ h
  ·apply Qa 4;apply Qo h<;>intro _ h
   ·apply Qa 2;exact tRE h a
   refine Qu <|Qx p h 0
  apply Qa 1012;have⟨g,c,h⟩:=JL h;have s:∀t,g t=some r->To M i 111 [] [] l:=by
   intro t h;rw[c] at h;clear c;exact Qx p h 0
  clear c;apply Qo h<;>intro _ h
  ·have⟨_,_,_,_,h⟩:=bs2 h;apply Qa 123392;refine tIfs h 472 (λ_ h=>?_) λ_ h=>?_
   ·apply Qa 2;exact tRE h a
   refine tIfs h 3712 (λ_ h=>?_) λ_ h=>?_
   ·apply Qa 2;exact tRE h a
   have⟨_,_,_,_,h⟩:=bs2 h;apply Qa 2048;apply Qo h<;>intro _ h
   ·apply Qa 2;exact tRE h a
   refine Qu <|Qx s h 0
  apply Qa 1012;apply Qo h<;>intro _ h
  ·refine Qf λD E=>Qa 98 ?_;have⟨u,F,h⟩:=bs h;have H:∀v,(.inl v)=u->To M i 111 [] [] D:=by
    intro v j;subst j;simp only at h;refine E <|Qa 2 ?_;exact tRE h a
   refine tJr (λw=>[(6,ti w)]) 1 (λ_=>[]) 0 (.inr ·=u) (λw j=>?_) λI=>?_
   ·subst j;simp only at h;exact oRE h a
   refine Qk <|AC F (λs0=>[(10,ti s0)]) 65921 (λs0=>[]) 0 14 ?_;intro s0 o S h x K;refine Qf λ_ L=>Qa 480 ?_;apply Qo h<;>intro _ h
   ·refine Qu <|L <|Qf λ_ N=>Qk ?_;have⟨_,_,h⟩:=bs h;apply Qa 14848;apply Qo h<;>intro _ h
    ·apply Qa 2;apply AG;exact Qx I (x _ (sy h)) 2
    refine Qu <|N <|QJ 104 ?_;exact Qx K (sy h) 14
   refine QQ <|Qx H (x _ (sy h)) 0
  apply Qa 932;apply Qo h<;>intro _ h
  ·have⟨_,_,h⟩:=bs h;apply Qa 768;refine tIfs h 20 (λ_ h=>?_) λ_ h=>?_
   ·apply Qa 2;exact tRE h a
   apply Qa 8;apply Qo h<;>intro _ h
   ·apply Qa 2;exact tRE h a
   refine Qu <|Qx s h 0
  have⟨_,_,h⟩:=bs h;apply Qa 64;exact tRE h a
 replace h:=h0;apply Qo h<;>intro _ h
 ·apply Qu;cases sj h;exact QN n 254
 apply Qa 508;have⟨O,P,h⟩:=bs h;refine tJ0 [(40,tb O)] 2081153 [] 0 m ?_ λy=>?_
 ·cases sj h;exact QN n 254
 replace h:=P;apply Qo h<;>intro _ h
 ·apply Qu;cases sj h;exact QN y 254
 apply QJ 508;cases sj h;exact QN y 254
def D3 (c:Qc) (b:Int) (a:Int):Option Int:=PQ (a.natAbs+2) c b a
theorem fX {c:Qc} {b:Int} {a:Int} {r:Int} (h:D3 c b a=some r):FnOk prog 68 [Qb.ty c,ti b,ti a] [] (λ_=>[]) (λ_=>ti r):=UP _ _ _ _ _ h
instance :Spc3 prog 68 (λ(c:Qc) (b:Int) (a:Int)=>D3 c b a) (λ(c:Qc) (b:Int) (a:Int)=>[Qb.ty c,ti b,ti a]) (λ(r:Int)=>ti r):=⟨λh=>fX h⟩
def Hp (a:Ba):Option Bool:=(D3 a.x a.kind a.field).bind λb=>some (decide (b<0))
instance u7:Spc1 prog 300 Hp (λb=>[Cw.ty b]) tb:=.mk λ{b r} h=>by
 refine Fe func300 ntmps300 λc M d a=>?_
 apply Qa 2
 have⟨_,_,h⟩:=bs h
 apply Qa 512
 exact tRE h a
def Lt (a:Ba):Option Int:=(Hp a).bind λb=>(CB [A1.mk b 12]).bind λc=>some c
instance fY:Spc1 prog 304 Lt (λb=>[Cw.ty b]) ti:=.mk λ{b r} h=>by
 refine Fe func304 ntmps304 λc M d a=>?_
 apply Qa 2
 have⟨_,_,_,_,h⟩:=bs2 h
 apply Qa 64
 exact tRE h a
def JU (e:Qc) (a:Int) (b:Qe):Option (Int×Lz):=(EX e b.Of).bind λc=>(if (b.Xi !=6)||(decide (c<=a)) then some (-1,[]) else (idx e.Xa c).bind λf=>(Qr (λ(s0:Int×Lz)=>if decide (s0.1<(f.Xb.length:Int)) then (idx f.Xb s0.1).bind λd=>(opt (((d.Xi==7)&&(d.Of==b.Xj))==true) (D3 e c s0.1) default).bind λg=>(if ((d.Xi==7)&&(d.Of==b.Xj))&&(g==a) then (rm (s0.2.length+[s0.1].length)).bind λ_=>some (s0.2++[s0.1]) else some s0.2).bind λh=>some (.inl (i64.wrap (s0.1+1),h)) else some (.inr s0.2)) (0,[])).bind λi=>some (c,i))
instance u9:Spc3 prog 137 JU (λg a i=>[Qb.ty g,ti a,Qd.ty i]) (λr=>ttup [ti r.1,tsl rI r.2]):=.mk λ{g a i r} h=>by
 refine Fe func137 ntmps137 λC M k c=>?_
 apply Qa 70
 have⟨l,_,h⟩:=bs h
 apply Qa 480
 refine tIfs h 7936 (λ_ h=>?_) λ_ h=>?_
 ·apply Qa 6
  exact tRE h c
 apply Qa 122
 apply tNl rI 3
 refine Qf λm n=>?_
 have⟨_,_,p,h0,h⟩:=bs2 h
 apply Qa 16320
 have q:∀e f,e=p->To M k 61 [(9,tv f),(8,ti l)] [own rI 3 e f] m:=by
  intro e f s;subst s;refine n <|Qa 60 ?_;apply AG;refine AA (by intro _ _ H;exact (H.Xn 2 rfl).pick [0,2]) ?_;exact oRE h c
 refine Qk <|AT h0 (λs0 b=>[(31,ti s0.1),(9,tv b)]) 4365299499394 (λs0 b=>[own rI 3 s0.2 b]) 1 (.slice none 0 0) 510 ?_;intro s0 b o D h t u;apply Qa 1022;refine Qf λ_ v=>Qo h (λ_ h=>?_) λ_ h=>?_
 ·refine Qu <|v <|Qf λw x=>Qk ?_;have⟨y,_,_,_,z,A,h⟩:=bs3 h;refine QU [vb 3 (Qd.cs zz0),vb 3 (Qd.cs y)] [4,6] 32688 λE=>?_;apply tFz 1;apply Qa 536084480;refine tJ1 (λd=>[(9,tv d)]) 4365846921729 (λd=>[own rI 3 z d]) 1 w (λd=>?_) λj=>?_
  ·refine x <|QJ 1020 ?_;exact Q7 u d (sy h) 9069186915533831
  replace h:=A;apply Qo h<;>intro _ h
  ·have⟨_,_,h⟩:=bs h;refine AB [vo 3 rI 3 (s0.2++[s0.1])] [4] 32560 λB=>?_;cases sj h;exact QN (j (B 3)) 1020
  apply Qu;cases sj h;exact QN (j b) 11338717440639757
 refine QQ <|Q7 q b (t _ (sy h)) 96
def Lw (a:Ba):Option Int:=(JU a.x a.kind a.f).bind λb=>(CB [A1.mk (decide (b.1<0)) 12,A1.mk ((b.2.length:Int) !=1) 11]).bind λc=>some c
instance fZ:Spc1 prog 308 Lw (λb=>[Cw.ty b]) ti:=.mk λ{b r} h=>by
 refine Fe func308 ntmps308 λc M d a=>?_
 apply Qa 2
 have⟨_,_,_,_,h⟩:=bs2 h
 apply Qa 6144
 apply Qa 1024
 exact tRE h a
def Iy (a:Ba):Option (Qe×Bool):=(D3 a.x a.kind a.field).bind λb=>if decide (b<0) then some (zz0,false) else (idx (a.x).Xa b).bind λd=>(CW d (a.f).Of).bind λe=>(EW a.x b e).bind λc=>some (c.1,c.2)
instance vA:Spc1 prog 310 Iy (λb=>[Cw.ty b]) (λr=>ttup [Qd.ty r.1,tb r.2]):=.mk λ{b r} h=>by
 refine Fe func310 ntmps310 λe M f a=>?_
 refine QU [vb 1 (Qd.cs zz0)] [2] 6 λc=>?_
 have⟨_,_,h⟩:=bs h
 apply Qa 1792
 refine tIfs h 60 (λ_ h=>?_) λ_ h=>?_
 ·refine QU [v0 (box (Qd.cs zz0) (c 1))] [2] 68 λg=>?_
  exact tRE h a
 have⟨_,_,_,_,d,_,h⟩:=bs3 h
 refine QU [v0 (box (Qd.cs d.1) (c 1))] [17] 2228224 λi=>?_
 exact tRE h a
def Lx (b:Ba):Option Int:=(Iy b).bind λa=>(Hp b).bind λc=>(opt (((!a.2)||((a.1).Xi !=6))==false) (EX b.x (a.1).Of) default).bind λd=>(CB [A1.mk c 12,A1.mk (((!a.2)||((a.1).Xi !=6))||(d !=b.kind)) 13]).bind λe=>some e
instance fQ:Spc1 prog 309 Lx (λb=>[Cw.ty b]) ti:=.mk λ{b r} h=>by
 refine Fe func309 ntmps309 λd M e a=>?_
 apply Qa 2
 have⟨c,_,_,_,_,_,_,_,h⟩:=bs4 h
 refine QU [vb 5 (Qd.cs zz0),vb 5 (Qd.cs c.1)] [6,7] 448 λf=>?_
 apply tFz 0
 apply Qa 16777216
 exact tRE h a
def Ly (b:Ba):Option Int:=(Iy b).bind λa=>(Hp b).bind λc=>(CB [A1.mk c 12,A1.mk ((!a.2)||(!((((((a.1).Xi==2)||((a.1).Xi==3))||((a.1).Xi==4))||((a.1).Xi==5))||((a.1).Xi==8)))) 13]).bind λd=>some d
instance f5:Spc1 prog 311 Ly (λb=>[Cw.ty b]) ti:=.mk λ{b r} h=>by
 refine Fe func311 ntmps311 λd M e a=>?_
 apply Qa 2
 have⟨c,_,_,_,_,_,h⟩:=bs3 h
 refine QU [vb 5 (Qd.cs zz0),vb 5 (Qd.cs c.1)] [6,7] 448 λf=>?_
 apply tFz 0
 apply Qa 218103808
 apply Qa 8192
 exact tRE h a
def Bw (i:Int):Option (Ba->Option Int):=if i=0 then some Ls else if i=1 then some Lt else if i=4 then some Lu else if i=5 then some Lv else if i=6 then some Lw else if i=7 then some Lx else if i=8 then some Ly else none
theorem f6 {Γ:List (Nat×Ty)} {d:Option Tmp} {ty:TypeId} {pos:String} {af:Array Edge} {g:Option (Nat×Bool)} {x y:Operand} {i:Int} (hx:Fct Γ x Rg) (hi:Fct Γ y (tv (.int .i64 i))):
  OpJ prog ⟨d,.lookup 234 x y true,ty,pos,af,g⟩ Γ [] [] (λ_=>[]) (λ_=>ttup [D9.ty (DO.mk (Bw i)),tv (.bool (Bw i).isSome)]):=by
 have key:(A3 D7 i).isSome=(Bw i).isSome/\∀F w,(D9.ty (DO.mk (Bw i))).ok F w ((A3 D7 i).getD (.agg #[.nilFunc])):=by
  unfold Bw;by_cases h0:i=0
  ·subst h0;exact⟨rfl,λF w=>⟨_,rfl,.cons ⟨303,[],[],[],[],rfl,.nil,.nil,cal,λ_ _ a=>eG.ok a⟩ .nil⟩⟩
  by_cases b:i=1
  ·subst b;exact⟨rfl,λF w=>⟨_,rfl,.cons ⟨304,[],[],[],[],rfl,.nil,.nil,cal,λ_ _ a=>fY.ok a⟩ .nil⟩⟩
  by_cases c:i=4
  ·subst c;exact⟨rfl,λF w=>⟨_,rfl,.cons ⟨305,[],[],[],[],rfl,.nil,.nil,cal,λ_ _ a=>eH.ok a⟩ .nil⟩⟩
  by_cases e:i=5
  ·subst e;exact⟨rfl,λF w=>⟨_,rfl,.cons ⟨306,[],[],[],[],rfl,.nil,.nil,cal,λ_ _ a=>eI.ok a⟩ .nil⟩⟩
  by_cases f:i=6
  ·subst f;exact⟨rfl,λF w=>⟨_,rfl,.cons ⟨308,[],[],[],[],rfl,.nil,.nil,cal,λ_ _ a=>fZ.ok a⟩ .nil⟩⟩
  by_cases j:i=7
  ·subst j;exact⟨rfl,λF w=>⟨_,rfl,.cons ⟨309,[],[],[],[],rfl,.nil,.nil,cal,λ_ _ a=>fQ.ok a⟩ .nil⟩⟩
  by_cases k:i=8
  ·subst k;exact⟨rfl,λF w=>⟨_,rfl,.cons ⟨311,[],[],[],[],rfl,.nil,.nil,cal,λ_ _ a=>f5.ok a⟩ .nil⟩⟩
  simp only[A3,D7,Zb h0,Zb b,Zb c,Zb e,Zb f,Zb j,Zb k];exact⟨rfl,λF w=>⟨_,rfl,.cons rfl .nil⟩⟩
 have h:=f7 (P:=prog) (Γ:=Γ) (d:=d) (ty:=ty) (pos:=pos) (af:=af) (g:=g) (V:=λ_=>D9.ty (DO.mk (Bw i))) underlying234 ud3 zv232 hx hi key.2;rw[key.1] at h;exact h
def Ik (d:Qc) (a:Int) (b:Int):Option (Int×Int):=(EW d a b).bind λe=>if !e.2 then some (-1,-1) else (JU d a e.1).bind λc=>if (c.2.length:Int) !=1 then some (-1,-1) else (idx c.2 0).bind λf=>some (c.1,f)
instance vB:Spc3 prog 79 Ik (λd b a=>[Qb.ty d,ti b,ti a]) (λr=>ttup [ti r.1,ti r.2]):=.mk λ{d b a r} h=>by
 refine Fe func79 ntmps79 λf M g c=>?_
 apply Qa 98
 have⟨e,_,h⟩:=bs h
 refine QU [vb 7 (Qd.cs zz0),vb 7 (Qd.cs e.1)] [8,9] 3840 λi=>?_
 apply tFz 0
 refine tIfs h 108 (λ_ h=>?_) λ_ h=>?_
 ·apply Qa 6
  exact tRE h c
 have⟨_,_,h⟩:=bs h
 apply Qa 768
 refine tIfs h 56 (λ_ h=>?_) λ_ h=>?_
 ·apply Qa 6
  exact tRE h c
 have⟨_,_,h⟩:=bs h
 apply Qa 96
 exact tRE h c
def M2 (d:Cv) (a:Int) (g:Int) (b:Int):Option Int:=(Ik d.x a b).bind λc=>(idx (d.x).Xa c.1).bind λh=>(idx (d.x).Xa c.1).bind λi=>(idx i.Xb c.2).bind λj=>(CW h j.Up).bind λe=>(F6 (Qh.mk c.1 e a)).bind λ_=>(idx ((Ax d.refs (Qh.mk c.1 e a)).getD ([]:(List Lz))) g).bind λf=>(Qr (λ(s0:Int×Int)=>if decide (s0.1<(f.length:Int)) then (idx f s0.1).bind λk=>(idx d.w c.1).bind λl=>(idx l k).bind λm=>(idx m c.2).bind λn=>some (.inl (i64.wrap (s0.1+1),i64.wrap (s0.2+n))) else some (.inr s0.2)) (0,0)).bind λo=>some o
instance vC:Spc4 prog 88 M2 (λg a j b=>[tptr (KC.cs g),ti a,ti j,ti b]) ti:=.mk λ{g a j b r} h=>by
 refine Fe func88 ntmps88 λy M k e=>?_
 apply Qa 60
 have⟨c,_,_,h0,h⟩:=bs2 h
 apply Qa 63488
 replace h:=bk h0 h
 have⟨_,_,d,_,_,l,_,_,h⟩:=bs4 h
 refine QU [vb 25 (QF.cs (Qh.mk (0:Int) (0:Int) (0:Int))),vb 25 (QF.cs (Qh.mk c.1 d a))] [26,27] 3154116608 λz=>?_
 apply tFz 0
 apply Qa 126
 refine Qf λm n=>?_
 refine Qa 122368 ?_ (λ_=>by refine' pr 5 ?_;refine' rx (.p rfl (Pm (x0:=([]:(List Lz))) (i:=(Qh.mk c.1 d a)) (N7 l) underlying88 N8 BZ zok51 z1 (Fct.ints [(Qh.mk c.1 d a).kind,(Qh.mk c.1 d a).field,(Qh.mk c.1 d a).to] z0))) 5 ?_;exact rnn)
 have⟨p,q,h⟩:=bs h
 have s:∀f,f=p->To M k 81 [(12,ti f)] [] m:=by
  intro f t;subst t;refine n <|Qa 4 ?_;exact tRE h e
 refine Qk <|AC q (λs0=>[(60,ti s0.1),(12,ti s0.2)]) 4365299499394 (λs0=>[]) 0 254 ?_;intro s0 o A h u v;apply Qa 510;refine Qf λ_ w=>Qo h (λ_ h=>?_) λ_ h=>?_
 ·refine Qu <|w <|Qf λ_ x=>Qk ?_;have⟨_,_,_,_,_,_,_,_,h⟩:=bs4 h;apply Qa 4072;apply QJ 16580608;refine x <|QJ 508 ?_;exact Qx v (sy h) 61987660792839
 refine QQ <|Qx s (u _ (sy h)) 32
def Pn (b:Cv) (a:Int) (d:Lz) (e:Qe):Option (Int×Int):=(idx (b.x).Xa a).bind λf=>(CW f e.Up).bind λc=>(D3 b.x a c).bind λg=>(idx d c).bind λh=>some (g,h)
instance vD:Spc4 prog 89 Pn (λc a d e=>[tptr (KC.cs c),ti a,tsl rI d,Qd.ty e]) (λr=>ttup [ti r.1,ti r.2]):=.mk λ{c a d e r} h=>by
 refine Fe func89 ntmps89 λf M g b=>?_
 apply Qa 114
 have⟨_,_,_,_,_,_,_,_,h⟩:=bs4 h
 apply Qa 118784
 apply Qa 12288
 exact tRE h b
def IW (g:Qc) (k:Int):Option (Lz×(List QH)):=(idx g.Xa k).bind λi=>(E3 (some []:MpK Str Int) ([]:Str) (-1)).bind λm=>(Qr (λ(s0:Int×Lz×MpK Str Int)=>if decide (s0.1<(i.Xb.length:Int)) then (idx i.Xb s0.1).bind λj=>((if (j.Xi==2)||(j.Xi==4) then (E3 s0.2.2 j.Xj (s0.2.1.length:Int)).bind λf=>(rm (s0.2.1.length+[s0.1].length)).bind λ_=>some (f,s0.2.1++[s0.1]) else some (s0.2.2,s0.2.1))).bind λl=>some (.inl (i64.wrap (s0.1+1),l.2,l.1)) else some (.inr (s0.2.1,s0.2.2))) (0,[],m)).bind λb=>(Qr (λ(a:Int×List QH)=>if decide (a.1<(b.1.length:Int)) then (idx b.1 a.1).bind λn=>(idx i.Xb n).bind λe=>(if e.Xi==4 then some ((Ax b.2 e.Of).getD 0) else some (-1)).bind λh=>(rm (a.2.length+[QH.mk a.1 h e.Hi,QH.mk h a.1 (i64.wrap (0 - e.Lo))].length)).bind λ_=>some (.inl (i64.wrap (a.1+1),a.2++[QH.mk a.1 h e.Hi,QH.mk h a.1 (i64.wrap (0 - e.Lo))])) else some (.inr a.2)) (0,[])).bind λo=>(Qr (λ(c:Int×List QH)=>if decide (c.1<(g.Xc.length:Int)) then (idx g.Xc c.1).bind λd=>(EX g d.Xi).bind λp=>(if p==k then (rm (c.2.length+[QH.mk ((Ax b.2 d.A).getD 0) ((Ax b.2 d.B).getD 0) d.N].length)).bind λ_=>some (c.2++[QH.mk ((Ax b.2 d.A).getD 0) ((Ax b.2 d.B).getD 0) d.N]) else some c.2).bind λq=>some (.inl (i64.wrap (c.1+1),q)) else some (.inr c.2)) (0,o)).bind λr=>some (b.1,r)
instance vE:Spc2 prog 69 IW (λF I=>[Qb.ty F,ti I]) (λr=>ttup [tsl rI r.1,tsl B7 r.2]):=.mk λ{F I r} h=>by
 refine Fe func69 ntmps69 λM0 M R v=>?_
 apply Qa 34
 have⟨S,_,h⟩:=bs h
 refine QU [vb 5 (Qq.cs zz1),vb 5 (Qq.cs S)] [6,7] 448 λm0=>?_
 apply tFz 0
 apply Qa 30
 apply tNl rI 3
 refine Qf λ_ T=>?_
 have⟨U,w,h⟩:=bs h
 refine AB [v1 0 (λv0=>AJ rI (some []:MpK Str Int) v0),v1 0 (λv0=>AJ rI U v0)] [1,2] 254 (λt=>?_) (λ_=>by refine' rx (.m [] [1] rfl rfl rfl (Po Str rI)) 0 ?_;refine' rx (.e [] [1] [2] rfl rfl rfl rfl (f8 (i:=([]:Str)) trivial IL (Gi ud9) z0 .k .k w)) 2 ?_;exact rnn)
 apply T
 refine Qf λV W=>?_
 apply Qa 4092
 have⟨X,h0,h⟩:=bs h
 refine tJq (λ_ d=>[(7,tv d)]) 266485895 (λe d=>[own rI 3 e.1 d,AJ rI e.2 (t 0)]) 129 V (·=X) (λe d k=>?_) λY=>?_
 ·subst k
  apply W
  apply Qa 126
  apply tNl B7 207
  refine Qf λZ k2=>?_
  apply Qa 1022
  have⟨e4,h1,h⟩:=bs h
  refine tJq (λ_ l=>[(11,tv l)]) 2703344385 (λK l=>[own B7 207 K l]) 65921 Z (·=e4) (λK l k=>?_) λJ1=>?_
  ·subst k
   apply k2
   refine Qf λK2 k3=>?_
   apply Qa 1020
   have⟨e5,h2,h⟩:=bs h
   have J2:∀x y,x=e5->To M R 115 [(11,tv y),(7,tv d)] [own B7 207 x y,own rI 3 e.1 d] K2:=by
    intro x y k;subst k;refine k3 <|Qa 126 ?_;apply AG;refine AA (by intro _ _ H;exact ((H.Xk [1,0] rfl).Xn 2 rfl).pick [0,2,4,5]) ?_;refine AA (by intro _ _ H;exact (H.Xn 2 rfl).pick [0,1]) ?_;exact oRE h v
   refine Qk <|AT h2 (λs0 f=>[(88,ti s0.1),(11,tv f)]) 4365299499394 (λs0 f=>[own B7 207 s0.2 f]) 65921 l 510 ?_;intro s0 f o K3 h m k4;apply Qa 1022;refine Qf λ_ k5=>Qo h (λ_ h=>?_) λ_ h=>?_
   ·refine Qu <|k5 <|Qf λK4 k6=>Qk ?_;have⟨g,_,_,_,p3,h3,h⟩:=bs3 h;refine QU [vb 2 (QV.cs zz3),vb 2 (QV.cs g)] [3,4] 8168 λm2=>?_;apply tFz 3;apply Qa 65472;refine tJ1 (λn=>[(11,tv n)]) 4365846921729 (λn=>[own B7 207 p3 n]) 16899 K4 (λn=>?_) λL=>?_
    ·refine k6 <|QJ 1020 ?_;refine AA (λ_ _ H=>(H.pick [2,3,0,1,4,5,6,7]).Xk [2,0,1] rfl) ?_;exact Q7 k4 n (sy h) 510
    replace h:=h3;apply Qo h<;>intro _ h
    ·have⟨_,_,h⟩:=bs h;refine AB [vo 13 B7 207 (s0.2++[QH.mk ((Ax e.2 g.A).getD (0:Int)) ((Ax e.2 g.B).getD (0:Int)) g.N])] [14] 33341508 (λm3=>?_) (λ_=>by refine' pr 4 ?_;refine' rx (.u [2] rfl rfl (Pp (x0:=(0:Int)) (i:=g.A) trivial IL (Gi ud9) tok3 zok3 z2 z0)) 3 ?_;refine' rx (.u [2] rfl rfl (Pp (x0:=(0:Int)) (i:=g.B) trivial IL (Gi ud9) tok3 zok3 z2 z0)) 6 ?_;exact rnn);cases sj h;exact QN (L (m3 13)) 4080
    apply Qu;cases sj h;refine AA (λ_ _ H=>(H.pick [5,2,3,4,6,7,8,9]).Xk [1,2,0] rfl) ?_;exact QN (L f) 510
   refine QQ <|AA (λ_ _ H=>(H.pick [4,6]).Xk [0,1] rfl) ?_;exact Q7 J2 f (m _ (sy h)) 6
  refine Qk <|AT h1 (λa p=>[(53,ti a.1),(11,tv p)]) 4365299499394 (λa p=>[own B7 207 a.2 p]) 65921 (.slice none 0 0) 1022 ?_;intro a p o K5 h m k7;apply Qa 2046;refine Qf λ_ k8=>Qo h (λ_ h=>?_) λ_ h=>?_
  ·refine Qu <|k8 <|Qf λ_ k9=>Qk ?_;have⟨_,_,u,_,z,h4,h⟩:=bs3 h;apply Qa 65456;refine QU [vb 5 (Qd.cs zz0),vb 5 (Qd.cs u)] [6,7] 261824 λm4=>?_;apply tFz 3;apply Qa 8190;refine Qf λK6 A=>Qa 65528 ?_;refine tJ0 [(15,ti z)] 2081281 [] 127 K6 ?_ λN=>?_
   ·apply A;have⟨_,_,h⟩:=bs h;refine AB [vo 13 B7 207 (a.2++[QH.mk a.1 z u.Hi,QH.mk z a.1 (i64.wrap (0 - u.Lo))])] [14] 133742592 λm5=>?_;refine k9 <|QJ 4092 ?_;refine AA (λ_ _ H=>(H.pick [3,4,0,2,5,6,7,8,9]).Xk [2,0,1] rfl) ?_;exact Q7 k7 (m5 13) (sy h) 1022
   replace h:=h4;apply Qo h<;>intro _ h
   ·refine QJ 262050 ?_ (λ_=>by refine' pr 3 ?_;refine' rx (.u [2] rfl rfl (Pp (x0:=(0:Int)) (i:=u.Of) trivial IL (Gi ud9) tok3 zok3 z2 z0)) 1 ?_;exact rnn);cases sj h;exact QN N 16380
   apply Qu;cases sj h;exact QN N 16380
  refine QQ <|Q7 J1 p (m _ (sy h)) 1760
 refine Qk <|AT h0 (λb j=>[(28,ti b.1),(7,tv j)]) 558861427687810 (λb j=>[own rI 3 b.2.1 j,AJ rI b.2.2 (t 0)]) 129 (.slice none 0 0) 1998 ?_;intro b j o K7 h m B;apply Qa 1022;refine Qf λ_ C=>Qo h (λ_ h=>?_) λ_ h=>?_
 ·refine Qu <|C <|Qf λK8 D=>Qk ?_;have⟨O,_,P,h5,h⟩:=bs2 h;refine QU [vb 3 (Qd.cs zz0),vb 3 (Qd.cs O)] [4,6] 32688 λm6=>?_;apply tFz 2;apply Qa 524032;refine tJ1 (λq=>[(7,tv q)]) 558897666556545 (λq=>[AJ rI P.1 (t 0),own rI 3 P.2 q]) 129 K8 (λq=>?_) λQ=>?_
  ·refine D <|QJ 1020 ?_;refine AA (λ_ _ H=>(H.pick [2,3,0,4,1,5,6,7]).Xk [1,0] rfl) ?_;exact Q7 B q (sy h) 510
  replace h:=h5;apply Qo h<;>intro _ h
  ·refine Qf λ_ E=>?_;have⟨s,c,h⟩:=bs h;refine AB [v0 (AJ rI s (t 0))] [6] 130834 (λm7=>?_) (λ_=>by refine' pr 5 ?_;refine' rx (.e [] [1] [2] rfl rfl rfl rfl (M3 (i:=O.Xj) trivial IL (Gi ud9) z4 z2 z0 c)) 0 ?_;exact rnn);apply E;have⟨_,_,h⟩:=bs h;refine AB [vo 3 rI 3 (b.2.1++[b.1])] [4] 65136 λm9=>?_;cases sj h;exact QN (Q (m9 3)) 2036
  apply Qu;cases sj h;refine AA (λ_ _ H=>(H.pick [7,3,4,5,6,8,9,10]).Xk [1,0] rfl) ?_;exact QN (Q j) 510
 refine QQ <|Q7 Y j (m _ (sy h)) 992

/- The walk. No condition. -/
import Derived.Test.YtmhcoofnnmiejaaGreatDoorLib
import Derived.Test.YtmhcoofnnmiejaaGreatDoorBaseI
set_option linter.all false
open List Go.Proofs.Tryz Go.IntKind
namespace Go.Proofs.YtmhcoofnnmiejaaGreatDoor
noncomputable section
open Go.Sim
set_option maxRecDepth 100000
set_option maxHeartbeats 4000000
def Qfv (b:(List Qe)) (a:Str):Option (Int):=(Qr (λ(s0:Int)=>((if (decide (s0<(b.length:Int)))=true then (idx b s0).bind λc=>(if (c.Xj==a)=true then (some (.inr (.inr s0))) else (some (.inl (i64.wrap (s0+1))))) else (some (.inr (.inl ())))):Option ((Int)⊕((Unit)⊕(Int))))) (0:Int)).bind λd=>(match d with | .inl _=>(some (-1:Int)) | .inr e=>(some e))
instance Qns:Spc2 prog 59 Qfv (λd a=>[tsl Qd d,tv (.string (sB a))]) ti:=.mk λ{d a r} h=>by
 unfold Qfv at h
 refine Fe func59 ntmps59 λt M j b=>?_
 refine Qa 12 ?_
 refine Qf λk l=>?_
 refine Qa 14 ?_
 have⟨e,h0,h⟩:=bs h
 have m:∀f,(.inl f)=e->To M j 20 [] [] k:=by
  intro f c;subst c;simp only at h;refine l <|Qa 2 ?_;exact Qp h (·▸Qn b)
 refine tJr (λg=>[(4,ti g)]) 1 (λ_=>[]) 0 (.inr ·=e) (λg c=>?_) λn=>?_
 ·subst c;simp only at h;obtain rfl:=sj h;exact Qn b
 refine Qk <|Qaf h0 (λs0=>[(5,ti s0)]) 65921 (λs0=>[]) 0 14 ?_;clear h;intro s0 o u h i p;refine Qf λ_ q=>Qa 240 ?_;refine Qo h (λ_ h=>?_) λ_ h=>?_
 ·refine Qu <|q <|Qf λ_ s=>Qk ?_;have⟨_,_,h⟩:=bs h;refine Qa 3712 ?_;refine Qo h (λ_ h=>?_) λ_ h=>?_
  ·refine Qa 4 ?_;refine QaA ?_;exact Qx n (i _ (sj h).symm) 2
  refine Qu <|s <|QJ 104 ?_;exact Qx p ((sj h).symm) 14
 refine QQ <|Qx m (i _ (sj h).symm) 0
def Qi1 (c:Qc) (a:Int) (b:Int):Option (Bool):=(if (((decide (a<0))||(decide (a>=(c.Xa.length:Int))))||(decide (b<0)))=true then (some false) else (idx c.Xa a).bind λd=>(some (decide (b<(d.Xb.length:Int)))))
instance QF1:Spc3 prog 67 Qi1 (λd b a=>[Qb.ty d,ti b,ti a]) tb:=.mk λ{d b a r} h=>by
 unfold Qi1 at h
 refine Fe func67 ntmps67 λe M f c=>?_
 refine Qa 50 ?_
 refine tIfs h 122880 (λ_ h=>?_) λ_ h=>?_
 ·refine Qa 2 ?_
  exact Qp h (·▸Qn c)
 have⟨_,_,h⟩:=bs h
 refine Qa 1024 ?_
 exact Qp h (·▸Qn c)
def QcT (a:(List Int)) (b:(List Int)):Option (Int):=(Qr (λ(s0:Int×Int)=>(if ((decide (s0.1<(a.length:Int)))&&(decide (s0.1<(b.length:Int))))=true then (idx a s0.1).bind λc=>(idx b s0.1).bind λd=>(idx b s0.1).bind λe=>(idx a s0.1).bind λf=>(some (.inl ((i64.wrap (s0.1+1)),(i64.wrap (s0.2+(imax (i64.wrap (c - d)) (i64.wrap (e - f)))))))) else (some (.inr s0.2)))) ((0:Int),(0:Int))).bind λg=>(some g)
instance Qz3:Spc2 prog 129 QcT (λc d=>[tsl rI c,tsl rI d]) ti:=.mk λ{c d r} h=>by
 unfold QcT at h
 refine Fe func129 ntmps129 λt M e a=>?_
 refine Qa 12 ?_
 refine Qa 14 ?_
 refine Qf λf g=>?_
 refine Qa 30 ?_
 have⟨i,h0,h⟩:=bs h
 have j:∀b,b=i->To M e 41 [(5,ti b)] [] f:=by
  intro b k;subst k;refine g <|Qa 4 ?_;exact Qp h (·▸Qn a)
 refine Qk <|Qaf h0 (λs0=>[(6,ti s0.1),(5,ti s0.2)]) 10551425 (λs0=>[]) 0 30 ?_;clear h;intro s0 o u h l m;refine Qf λ_ n=>Qa 31744 ?_;refine Qo h (λ_ h=>?_) λ_ h=>?_
 ·refine Qu <|n <|Qf λ_ p=>Qk ?_;have⟨_,q,_,s,h⟩:=bs2 h;replace h:=bk s h;replace h:=bk q h;refine QJ 121634816 ?_;refine p <|QJ 120 ?_;exact Qx m ((sj h).symm) 30
 refine QQ <|Qx j (l _ (sj h).symm) 8
def QbE (a:(List Int)):Option ((List Int)):=(rm (([]:List Int).length+a.length)).bind λ_=>(some (([]:List Int)++a))
instance Qjm:SpcS prog 33 (∀{b r},QbE b=some r->FnOk prog 33 [tsl rI b] [] (λv=>[own rI 3 r v]) (λv=>tv v)):=.mk λ{b r} h=>by
 unfold QbE at h
 refine Fe func33 ntmps33 λf M g a=>?_
 refine Qa 4 ?_
 refine Qf λ_ c=>?_
 refine Qa 12 ?_
 refine tTestN 0 (λd=>?_) ?_
 ·replace h:(some ([]:List Int))=some r:=by
   have⟨_,_,h⟩:=bs h;rw[d] at h;exact h
  refine Qa 2 ?_;refine Q1 (λ_ _ H=>H.nil (rI) 3) ?_;exact Qp h (·▸QaQ (.slice none 0 0) [0] a)
 refine Qu <|c ?_;have⟨_,_,h⟩:=bs h;refine QU [v1 0 (λv0=>own rI 3 ([]:List Int) v0),v1 2 (λv0=>own rI 3 (([]:List Int)++b) v0)] [1,3] 24 λe=>?_;exact Qp h (·▸QaQ (e 2) [0] a)
def Qc9 (a:Qw):Option ((List Int)):=(mk a.n (0:Int)).bind λd=>(Qr (λ(s0:Int×List Int)=>(if (decide (s0.1<(a.l.length:Int)))=true then (idx a.l s0.1).bind λb=>(idx s0.2 b.To).bind λe=>(idx a.flow s0.1).bind λf=>(setAt s0.2 b.To (i64.wrap (e+f))).bind λc=>(idx c b.From).bind λg=>(idx a.flow s0.1).bind λh=>(setAt c b.From (i64.wrap (g - h))).bind λi=>(some (.inl ((i64.wrap (s0.1+1)),i))) else (some (.inr s0.2)))) ((0:Int),d)).bind λj=>(some j)
instance Qnt:SpcS prog 100 (∀{b r},Qc9 b=some r->FnOk prog 100 [tptr (Qbf.cs b)] [] (λv=>[own rI 3 r v]) (λv=>tv v)):=.mk λ{b r} h=>by
 unfold Qc9 at h
 refine Fe func100 ntmps100 λw M e c=>?_
 refine Qa 4 ?_
 have⟨f,_,h⟩:=bs h
 refine QU [v1 4 (λv0=>own rI 3 f v0)] [5] 224 λa=>?_
 refine Qf λg i=>?_
 refine Qa 1008 ?_
 have⟨j,h0,h⟩:=bs h
 have k:∀d,d=j->To M e 51 [(3,tv (a 4))] [own rI 3 d (a 4)] g:=by
  intro d l;subst l;refine i <|Qa 14 ?_;exact Qp h (·▸QaQ (a 4) [0] c)
 refine Qk <|Qaf h0 (λs0=>[(16,ti s0.1)]) 1891647874 (λs0=>[own rI 3 s0.2 (a 4)]) 1 110 ?_;clear h;intro s0 o x h m n;refine Qa 126 ?_;refine Qf λ_ p=>Qo h (λ_ h=>?_) λ_ h=>?_
 ·refine Qu <|p <|Qf λ_ q=>Qk ?_;have⟨s,_,h⟩:=bs h;refine QU [v1 3 (λv0=>box (QE.cs (Qi.mk (0:Int) (0:Int) (0:Int) (0:Int) (0:Int))) v0),v1 3 (λv0=>box (QE.cs s) v0)] [4,6] 4016 λy=>?_;refine Q1 (λ_ _ H=>(((H.Xk [1,0] rfl).Xl 0 rfl).add 0 rfl (λ_ _ _ h=>h.2)).pick [0,3,4,5,6,7,8]) ?_;have⟨_,_,_,_,t,_,h⟩:=bs3 h;refine QU [v0 (own rI 3 t (a 4))] [15] 4161538 λz=>?_;have⟨_,_,_,_,u,_,h⟩:=bs3 h;refine QaG [v0 (own rI 3 u (a 4))] [15] 8159234 λA=>?_;refine q <|QJ 508 ?_;exact Qx n ((sj h).symm) 3783296265
 refine QQ <|Qx k (m _ (sj h).symm) 32
def QbW (b:Qw) (a:Qg):Option (Int):=(if (decide (a.forward>0))=true then (idx b.l a.edge).bind λc=>(idx b.flow a.edge).bind λd=>(some (i64.wrap (c.Hi - d))) else (idx b.flow a.edge).bind λe=>(idx b.l a.edge).bind λf=>(some (i64.wrap (e - f.Lo))))
instance Qo4:Spc2 prog 103 QbW (λb c=>[tptr (Qbf.cs b),Qv.ty c]) ti:=.mk λ{b c r} h=>by
 unfold QbW at h
 refine Fe func103 ntmps103 λd M e a=>?_
 refine Qa 10 ?_
 refine tIfs h 56 (λ_ h=>?_) λ_ h=>?_
 ·have⟨_,_,_,_,h⟩:=bs2 h
  refine Qa 524288 ?_
  exact Qp h (·▸Qn a)
 have⟨_,_,_,_,h⟩:=bs2 h
 refine Qa 524288 ?_
 exact Qp h (·▸Qn a)
def QdM (c:Qg) (b:Int) (a:Qw):Option (Int×Qw):=(QbW (Qw.mk a.n a.l a.flow a.arcs) c).bind λd=>(some ((imin b d),(Qw.mk a.n a.l a.flow a.arcs)))
instance Qnu:SpcS prog 105 (∀{d e a f c b r},QdM f c b=some r->FnOk prog 105 [Qv.ty f,tv d,tptr (rVal.cs e)] [box (rI.cs c) d,bxN b.n b.l a b.arcs e,own rI 3 b.flow a] (λ_=>[box (rI.cs r.1) d,bxN (r.2).n (r.2).l a (r.2).arcs e,own rI 3 (r.2).flow a]) (λ_=>ttup [])):=.mk λ{d e a f c b r} h=>by
 unfold QdM at h
 refine Fe func105 ntmps105 λj M k g=>?_
 refine Qa 26 ?_
 have⟨i,h0,h⟩:=bs h
 refine QaG [v0 (box (rI.cs (imin c i)) d)] [6] 384 (λl=>?_) (λ_=>by refine' pr 1 ?_;refine' rx (.p rfl (QcN Qvh z3)) 1 ?_;refine' rx (.u [1,2] rfl rfl (Qb2 [bxN b.n b.l a b.arcs e,own rI 3 b.flow a] QuX (Qo4.ok h0) (.cons (.boxP 2 z1 (.head _) (.tail _ (.head _)) rfl)<|.cons (.of z0)<|.nil) (λ_=>Qa8) (λ_=>Qib (x:=undef)))) 2 ?_;exact rnn)
 obtain rfl:=sj h
 exact Qll undef [2,0,1] g
def QdN (c:Qg) (a:Qw) (b:Int):Option (Qw×Int):=(idx a.flow c.edge).bind λd=>(setAt a.flow c.edge (i64.wrap (d+(i64.wrap (c.forward * b))))).bind λe=>(some ((Qw.mk a.n a.l e a.arcs),b))
instance Qnv:SpcS prog 106 (∀{d a e f b c r},QdN f b c=some r->FnOk prog 106 [Qv.ty f,tptr (rVal.cs d),tv e] [bxN b.n b.l a b.arcs d,own rI 3 b.flow a,box (rI.cs c) e] (λ_=>[bxN (r.1).n (r.1).l a (r.1).arcs d,own rI 3 (r.1).flow a,box (rI.cs r.2) e]) (λ_=>ttup [])):=.mk λ{d a e f b c r} h=>by
 unfold QdN at h
 refine Fe func106 ntmps106 λj M k g=>?_
 refine Qa 26 ?_
 have⟨_,_,i,_,h⟩:=bs2 h
 refine QaG [v0 (own rI 3 i a)] [15] 196624 (λl=>?_) (λ_=>by refine' rx (.p rfl (QcN Qvh z1)) 14 ?_;exact rnn)
 obtain rfl:=sj h
 exact Qll undef [0,2,1] g
def QeD (a:Int) (b:Int) (c:Int):Option (Int):=(if (decide (a<b))=true then (some b) else (some (imin a c)))
instance Qtd:Spc3 prog 16 QeD (λa b c=>[ti a,ti b,ti c]) ti:=.mk λ{a b c r} h=>by
 unfold QeD at h
 refine Fe func16 ntmps16 λe M f d=>?_
 refine Qa 28 ?_
 refine tIfs h 120 (λ_ h=>?_) λ_ h=>?_
 ·refine Qa 4 ?_
  exact Qp h (·▸Qn d)
 refine Qa 16 ?_
 exact Qp h (·▸Qn d)
def Qdv (a:(List Str)) (b:(List Str)):Option (Bool):=(if ((a.length:Int) !=(b.length:Int))=true then (some false) else (Qr (λ(s0:Int)=>((if (decide (s0<(a.length:Int)))=true then (idx a s0).bind λc=>(idx b s0).bind λd=>(if (c !=d)=true then (some (.inr (.inr false))) else (some (.inl (i64.wrap (s0+1))))) else (some (.inr (.inl ())))):Option ((Int)⊕((Unit)⊕(Bool))))) (0:Int)).bind λe=>(match e with | .inl _=>(some true) | .inr f=>(some f)))
instance Que:Spc2 prog 227 Qdv (λb c=>[tsl rS b,tsl rS c]) tb:=.mk λ{b c r} h=>by
 unfold Qdv at h
 refine Fe func227 ntmps227 λt M j a=>?_
 refine Qa 12 ?_
 refine tIfs h 224 (λ_ h=>?_) λ_ h=>?_
 ·refine Qa 2 ?_
  exact Qp h (·▸Qn a)
 refine Qf λk l=>?_
 refine Qa 108 ?_
 have⟨e,h0,h⟩:=bs h
 have m:∀f,(.inl f)=e->To M j 26 [] [] k:=by
  intro f d;subst d;simp only at h;refine l <|Qa 2 ?_;exact Qp h (·▸Qn a)
 refine tJr (λg=>[(4,tb g)]) 1 (λ_=>[]) 0 (.inr ·=e) (λg d=>?_) λn=>?_
 ·subst d;simp only at h;obtain rfl:=sj h;exact Qn a
 refine Qk <|Qaf h0 (λs0=>[(13,ti s0)]) 10551426 (λs0=>[]) 0 30 ?_;clear h;intro s0 o u h i p;refine Qa 62 ?_;refine Qf λ_ q=>Qo h (λ_ h=>?_) λ_ h=>?_
 ·refine Qu <|q <|Qf λ_ s=>Qk <|Qa 244 ?_;have⟨_,_,_,_,h⟩:=bs2 h;refine Qa 31232 ?_;refine Qo h (λ_ h=>?_) λ_ h=>?_
  ·refine Qa 2 ?_;refine QaA ?_;exact Qx n (i _ (sj h).symm) 2
  refine Qu <|s <|QJ 116 ?_;exact Qx p ((sj h).symm) 16875781
 refine QQ <|Qx m (i _ (sj h).symm) 0
def Qeu (a:(List Int)) (b:(List Int)):Option (Bool):=(if ((a.length:Int) !=(b.length:Int))=true then (some false) else (Qr (λ(s0:Int)=>((if (decide (s0<(a.length:Int)))=true then (idx a s0).bind λc=>(idx b s0).bind λd=>(if (c !=d)=true then (some (.inr (.inr false))) else (some (.inl (i64.wrap (s0+1))))) else (some (.inr (.inl ())))):Option ((Int)⊕((Unit)⊕(Bool))))) (0:Int)).bind λe=>(match e with | .inl _=>(some true) | .inr f=>(some f)))
instance Qw9:Spc2 prog 228 Qeu (λb c=>[tsl rI b,tsl rI c]) tb:=.mk λ{b c r} h=>by
 unfold Qeu at h
 refine Fe func228 ntmps228 λt M j a=>?_
 refine Qa 12 ?_
 refine tIfs h 224 (λ_ h=>?_) λ_ h=>?_
 ·refine Qa 2 ?_
  exact Qp h (·▸Qn a)
 refine Qf λk l=>?_
 refine Qa 108 ?_
 have⟨e,h0,h⟩:=bs h
 have m:∀f,(.inl f)=e->To M j 26 [] [] k:=by
  intro f d;subst d;simp only at h;refine l <|Qa 2 ?_;exact Qp h (·▸Qn a)
 refine tJr (λg=>[(4,tb g)]) 1 (λ_=>[]) 0 (.inr ·=e) (λg d=>?_) λn=>?_
 ·subst d;simp only at h;obtain rfl:=sj h;exact Qn a
 refine Qk <|Qaf h0 (λs0=>[(13,ti s0)]) 10551426 (λs0=>[]) 0 30 ?_;clear h;intro s0 o u h i p;refine Qa 62 ?_;refine Qf λ_ q=>Qo h (λ_ h=>?_) λ_ h=>?_
 ·refine Qu <|q <|Qf λ_ s=>Qk <|Qa 244 ?_;have⟨_,_,_,_,h⟩:=bs2 h;refine Qa 31232 ?_;refine Qo h (λ_ h=>?_) λ_ h=>?_
  ·refine Qa 2 ?_;refine QaA ?_;exact Qx n (i _ (sj h).symm) 2
  refine Qu <|s <|QJ 116 ?_;exact Qx p ((sj h).symm) 16875781
 refine QQ <|Qx m (i _ (sj h).symm) 0
def Qev (a:Qe) (b:Qe):Option (Bool):=(opt (((((((a.Xj==b.Xj)&&(a.Of==b.Of))&&(a.Up==b.Up))&&(a.Xi==b.Xi))&&(a.Lo==b.Lo))&&(a.Hi==b.Hi))==true) (Qdv a.Words b.Words) default).bind λc=>(opt ((((((((a.Xj==b.Xj)&&(a.Of==b.Of))&&(a.Up==b.Up))&&(a.Xi==b.Xi))&&(a.Lo==b.Lo))&&(a.Hi==b.Hi))&&c)==true) (Qeu a.Xf b.Xf) default).bind λd=>(some ((((((((a.Xj==b.Xj)&&(a.Of==b.Of))&&(a.Up==b.Up))&&(a.Xi==b.Xi))&&(a.Lo==b.Lo))&&(a.Hi==b.Hi))&&c)&&d))
instance Qxa:Spc2 prog 216 Qev (λb c=>[Qd.ty b,Qd.ty c]) tb:=.mk λ{b c r} h=>by
 unfold Qev at h
 refine Fe func216 ntmps216 λd M e a=>?_
 refine Qa 6 ?_
 have⟨_,_,_,_,h⟩:=bs2 h
 refine Qa 36028797018963968 ?_
 exact Qp h (·▸Qn a)
def Qgv (b:Qar) (a:(Qar->Option Bool)):Option (Bool):=(a b).bind λc=>(some (!c))
instance Qug:Spc2 prog 221 Qgv (λc a=>[QaR.ty c,tptr (Qmx.cs a)]) tb:=.mk λ{c a r} h=>by
 unfold Qgv at h
 refine Fe func221 ntmps221 λd M e b=>?_
 refine Qa 18 ?_
 have⟨_,_,h⟩:=bs h
 refine Qa 32 ?_
 exact Qp h (·▸Qn b)
def QcD (a:(List Qar)) (b:(Qar->Option Bool)):Option (Int):=(Qr (λ(s0:Int)=>((if (decide (s0<(a.length:Int)))=true then (idx a s0).bind λc=>(b c).bind λd=>(if d=true then (some (.inr (.inr s0))) else (some (.inl (i64.wrap (s0+1))))) else (some (.inr (.inl ())))):Option ((Int)⊕((Unit)⊕(Int))))) (0:Int)).bind λe=>(match e with | .inl _=>(some (-1:Int)) | .inr f=>(some f))
instance QrR:Spc2 prog 143 QcD (λc d=>[tsl QaR c,Qmx.ty d]) ti:=.mk λ{c d r} h=>by
 unfold QcD at h
 refine Fe func143 ntmps143 λt M j a=>?_
 refine Qa 12 ?_
 refine Qf λk l=>?_
 refine Qa 60 ?_
 have⟨e,h0,h⟩:=bs h
 have m:∀f,(.inl f)=e->To M j 19 [] [] k:=by
  intro f b;subst b;simp only at h;refine l <|Qa 2 ?_;exact Qp h (·▸Qn a)
 refine tJr (λg=>[(4,ti g)]) 1 (λ_=>[]) 0 (.inr ·=e) (λg b=>?_) λn=>?_
 ·subst b;simp only at h;obtain rfl:=sj h;exact Qn a
 refine Qk <|Qaf h0 (λs0=>[(8,ti s0)]) 10551426 (λs0=>[]) 0 30 ?_;clear h;intro s0 o u h i p;refine Qa 62 ?_;refine Qf λ_ q=>Qo h (λ_ h=>?_) λ_ h=>?_
 ·refine Qu <|q <|Qf λ_ s=>Qk <|Qa 244 ?_;have⟨_,_,_,_,h⟩:=bs2 h;refine Qa 4032 ?_;refine Qo h (λ_ h=>?_) λ_ h=>?_
  ·refine Qa 4 ?_;refine QaA ?_;exact Qx n (i _ (sj h).symm) 2
  refine Qu <|s <|QJ 228 ?_;exact Qx p ((sj h).symm) 16875781
 refine QQ <|Qx m (i _ (sj h).symm) 0
def QbD (a:(List Qar)) (b:(Qar->Option Bool)):Option (Bool):=(QcD a b).bind λc=>(some (decide (c>=0)))
instance Qqt:Spc2 prog 122 QbD (λb c=>[tsl QaR b,Qmx.ty c]) tb:=.mk λ{b c r} h=>by
 unfold QbD at h
 refine Fe func122 ntmps122 λd M e a=>?_
 refine Qa 12 ?_
 have⟨_,_,h⟩:=bs h
 refine Qa 32 ?_
 exact Qp h (·▸Qn a)
def Qd6 (b:(List Qar)) (a:(Qar->Option Bool)):Option (Bool):=(QbD b (λx0=>Qgv x0 a)).bind λc=>(some (!c))
instance Qwv:Spc2 prog 194 Qd6 (λc a=>[tsl QaR c,Qmx.ty a]) tb:=.mk λ{c a r} h=>by
 unfold Qd6 at h
 refine Fe func194 ntmps194 λd M e b=>?_
 refine Qa 10 ?_
 have⟨_,_,h⟩:=bs h
 refine Qa 32 ?_
 exact Qp h (·▸Qn b)
def QhB (b:QL) (a:(QL->Option Bool)):Option (Bool):=(a b).bind λc=>(some (!c))
instance Qww:Spc2 prog 196 QhB (λc a=>[QV.ty c,tptr (Qmy.cs a)]) tb:=.mk λ{c a r} h=>by
 unfold QhB at h
 refine Fe func196 ntmps196 λd M e b=>?_
 refine Qa 18 ?_
 have⟨_,_,h⟩:=bs h
 refine Qa 32 ?_
 exact Qp h (·▸Qn b)
def Qc2 (a:(List QL)) (b:(QL->Option Bool)):Option (Int):=(Qr (λ(s0:Int)=>((if (decide (s0<(a.length:Int)))=true then (idx a s0).bind λc=>(b c).bind λd=>(if d=true then (some (.inr (.inr s0))) else (some (.inl (i64.wrap (s0+1))))) else (some (.inr (.inl ())))):Option ((Int)⊕((Unit)⊕(Int))))) (0:Int)).bind λe=>(match e with | .inl _=>(some (-1:Int)) | .inr f=>(some f))
instance Qtg:Spc2 prog 202 Qc2 (λc d=>[tsl QV c,Qmy.ty d]) ti:=.mk λ{c d r} h=>by
 unfold Qc2 at h
 refine Fe func202 ntmps202 λt M j a=>?_
 refine Qa 12 ?_
 refine Qf λk l=>?_
 refine Qa 60 ?_
 have⟨e,h0,h⟩:=bs h
 have m:∀f,(.inl f)=e->To M j 19 [] [] k:=by
  intro f b;subst b;simp only at h;refine l <|Qa 2 ?_;exact Qp h (·▸Qn a)
 refine tJr (λg=>[(4,ti g)]) 1 (λ_=>[]) 0 (.inr ·=e) (λg b=>?_) λn=>?_
 ·subst b;simp only at h;obtain rfl:=sj h;exact Qn a
 refine Qk <|Qaf h0 (λs0=>[(8,ti s0)]) 10551426 (λs0=>[]) 0 30 ?_;clear h;intro s0 o u h i p;refine Qa 62 ?_;refine Qf λ_ q=>Qo h (λ_ h=>?_) λ_ h=>?_
 ·refine Qu <|q <|Qf λ_ s=>Qk <|Qa 244 ?_;have⟨_,_,_,_,h⟩:=bs2 h;refine Qa 4032 ?_;refine Qo h (λ_ h=>?_) λ_ h=>?_
  ·refine Qa 4 ?_;refine QaA ?_;exact Qx n (i _ (sj h).symm) 2
  refine Qu <|s <|QJ 228 ?_;exact Qx p ((sj h).symm) 16875781
 refine QQ <|Qx m (i _ (sj h).symm) 0
def QbN (a:(List QL)) (b:(QL->Option Bool)):Option (Bool):=(Qc2 a b).bind λc=>(some (decide (c>=0)))
instance Qrk:Spc2 prog 170 QbN (λb c=>[tsl QV b,Qmy.ty c]) tb:=.mk λ{b c r} h=>by
 unfold QbN at h
 refine Fe func170 ntmps170 λd M e a=>?_
 refine Qa 12 ?_
 have⟨_,_,h⟩:=bs h
 refine Qa 32 ?_
 exact Qp h (·▸Qn a)
def QeZ (b:(List QL)) (a:(QL->Option Bool)):Option (Bool):=(QbN b (λx0=>QhB x0 a)).bind λc=>(some (!c))
instance QyQ:Spc2 prog 167 QeZ (λc a=>[tsl QV c,Qmy.ty a]) tb:=.mk λ{c a r} h=>by
 unfold QeZ at h
 refine Fe func167 ntmps167 λd M e b=>?_
 refine Qa 10 ?_
 have⟨_,_,h⟩:=bs h
 refine Qa 32 ?_
 exact Qp h (·▸Qn b)
def Qkb (a:Qar) (b:Int):Option (Bool):=(some ((decide ((imin a.a0 a.a1)<0))||(decide ((imax a.a0 a.a1)>=b))))
instance QCA:Spc2 prog 123 Qkb (λc a=>[QaR.ty c,tptr (rI.cs a)]) tb:=.mk λ{c a r} h=>by
 unfold Qkb at h
 refine Fe func123 ntmps123 λd M e b=>?_
 refine Qa 18 ?_
 refine Qa 65536 ?_
 exact Qp h (·▸Qn b)
def Qij (a:Qm):Option (Int):=(if ((decide ((a.Xe.length:Int)>12))||(decide ((a.Xg.length:Int)>32)))=true then (some (4:Int)) else (opt (((a.Xe.length:Int)==0)==false) (QbD a.Xg (λx0=>Qkb x0 (a.Xe.length:Int))) default).bind λb=>(if (((a.Xe.length:Int)==0)||b)=true then (some (1:Int)) else (some (0:Int))))
instance QFT:Spc1 prog 87 Qij (λb=>[Qs.ty b]) ti:=.mk λ{b r} h=>by
 unfold Qij at h
 refine Fe func87 ntmps87 λc M d a=>?_
 refine Qa 2 ?_
 refine QU [v1 3 (λv0=>box (rI.cs (0:Int)) v0),v1 3 (λv0=>box (rI.cs (b.Xe.length:Int)) v0)] [4,5] 48 λe=>?_
 refine Q1 (λ_ _ H=>((H.Xl 0 rfl).add 0 rfl (λ_ _ _ h=>h.2)).pick [0,3]) ?_
 refine tIfs h 1792 (λ_ h=>?_) λ_ h=>?_
 ·refine Qa 2 ?_
  exact Qp h (·▸Qn a)
 have⟨_,_,h⟩:=bs h
 refine tIfs h 256 (λ_ h=>?_) λ_ h=>?_
 ·refine Qa 2 ?_
  exact Qp h (·▸Qn a)
 refine Qa 2 ?_
 exact Qp h (·▸Qn a)
def QgX (f:Int) (a:Q6) (b:(List Bool)) (c:Int) (d:Q6):Option (Bool×(List Bool)×Q6):=(Qr (λ(s0:Int×List Bool)=>(if (decide (s0.1<(b.length:Int)))=true then (idx s0.2 s0.1).bind λe=>(opt (e==false) (idx a.L s0.1) default).bind λg=>(opt (((e==false)&&(g==true))&&((decide (f>=c))==false)) (idx d.L s0.1) default).bind λh=>(setAt s0.2 s0.1 (e||(g&&((decide (f>=c))||h)))).bind λi=>(some (.inl ((i64.wrap (s0.1+1)),i))) else (some (.inr s0.2)))) ((0:Int),b)).bind λj=>(some (true,j,d))
instance Qp4:SpcS prog 90 (∀{g a i j b e f c r},QgX j b e f c=some r->FnOk prog 90 [ti j,Q8.ty b,tv g,tptr (rI.cs f),tv i] [box (rVal.cs a) g,own Qag 4 e a,box (Q8.cs c) i] (λ_=>[box (rVal.cs a) g,own Qag 4 r.2.1 a,box (Q8.cs r.2.2) i]) (λ_=>tb r.1)):=.mk λ{g a i j b e f c r} h=>by
 unfold QgX at h
 refine Fe func90 ntmps90 λA M B k=>?_
 refine Qa 234 ?_
 refine Qf λn p=>?_
 refine Qa 510 ?_
 have⟨q,h0,h⟩:=bs h
 refine tJp (λ_=>[]) 1159 (λl=>[own Qag 4 l a]) 65666 n (·=q) (λl s=>?_) λt=>?_
 ·subst s
  refine p ?_
  refine Qa 14 ?_
  exact Qp h (·▸QaQ undef [0,1,2] k)
 refine Qk ?_
 refine Qaf h0 (λs0=>[(11,ti s0.1)]) 266420355 (λs0=>[own Qag 4 s0.2 a]) 65666 508 ?_
 clear h
 intro s0 o C h u v
 refine Qa 510 ?_
 refine Qf λ_ w=>?_
 refine Qo h (λ_ h=>?_) λ_ h=>?_
 ·refine Qu ?_
  refine w ?_
  refine Qf λ_ x=>?_
  refine Qk ?_
  refine Qa 2036 ?_
  have⟨_,_,_,y,_,m,z,_,h⟩:=bs4 h
  refine QaG [v0 (own Qag 4 z a)] [23] 2130706442 (λD=>?_) (λ_=>by refine' pr 8 ?_;refine' rx (.g rfl rfl bq1 (λd=>QAn (xs:=b.L) Qoj tok4 z11 (.cond z0 d) rfl (Qfc y d))) 7 ?_;refine' rx (.gu [2] rfl rfl rfl (.c 1 rfl) (λd=>Qkk (L:=c.L) Qoj tok4 rfl z23 (.cond z0 d) rfl (Qfc m d))) 0 ?_;refine' rx (.gu [2] rfl rfl rfl (.c 2 rfl) (λd=>Qq5 (o:=0) (L:=c.L) tok4 rfl (.cond z0 d) rfl (Qfc m d))) 5 ?_;exact rnn)
  refine x ?_
  refine QJ 2044 ?_
  refine Qan (λ_ _ H=>(H.pick [3,0,4,5,6,7,8]).Xk [0,2,1] rfl) ?_
  exact Qx v ((sj h).symm) 254
 refine QQ ?_
 exact Qx t (u _ (sj h).symm) 320
def QgY (a:Int):Option (Bool):=(some (decide (a>62)))
instance QCC:Spc1 prog 41 QgY (λb=>[ti b]) tb:=.mk λ{b r} h=>by
 unfold QgY at h
 refine Fe func41 ntmps41 λc M d a=>?_
 refine Qa 4 ?_
 refine Qa 8 ?_
 exact Qp h (·▸Qn a)
def Qeg (a:Q2) (b:Int) (d:Int):Option ((List Int)):=(idx a.old b).bind λe=>(idx a.w b).bind λf=>(Qr (λ(s0:Int×List Int)=>(if (decide (s0.1<(imin (e.length:Int) (f.length:Int))))=true then (idx a.old b).bind λg=>(idx g s0.1).bind λh=>(idx h d).bind λc=>(rm (s0.2.length+[c].length)).bind λ_=>(some (.inl ((i64.wrap (s0.1+1)),(s0.2++[c])))) else (some (.inr s0.2)))) ((0:Int),([]:List Int))).bind λi=>(some i)
instance Qke:SpcS prog 42 (∀{c d e r},Qeg c d e=some r->FnOk prog 42 [tptr (Qd2.cs c),ti d,ti e] [] (λv=>[own rI 3 r v]) (λv=>tv v)):=.mk λ{c d e r} h=>by
 unfold Qeg at h
 refine Fe func42 ntmps42 λx M i f=>?_
 refine Qa 28 ?_
 refine Qa 30 ?_
 refine Q1 (λ_ _ H=>H.nil (rI) 3) ?_
 refine Qf λj k=>?_
 have⟨_,_,_,_,h⟩:=bs2 h
 refine Qa 8257536 ?_
 have⟨l,h0,h⟩:=bs h
 have m:∀g b,g=l->To M i 47 [(7,tv b)] [own rI 3 g b] j:=by
  intro g b n;subst n;refine k <|Qa 14 ?_;exact Qp h (·▸QaQ b [0] f)
 refine Qk <|QaU h0 (λs0 a=>[(26,ti s0.1),(7,tv a)]) 34101805186 (λs0 a=>[own rI 3 s0.2 a]) 1 (.slice none 0 0) 126 ?_;clear h;intro s0 a o y h p q;refine Qa 254 ?_;refine Qf λ_ s=>Qo h (λ_ h=>?_) λ_ h=>?_
 ·refine Qu <|s <|Qf λ_ t=>Qk <|Qa 1012 ?_;have⟨_,_,_,_,u,_,_,_,h⟩:=bs4 h;refine QaG [v1 15 (λv0=>own rI 3 (s0.2++[u]) v0)] [16] 16449536 λw=>?_;refine t <|QJ 508 ?_;exact Q7 q (w 15) ((sj h).symm) 484278632713
 refine QQ <|Q7 m a (p _ (sj h).symm) 16
def Qcu (a:Int):Option (Bool):=(some ((decide (a<(-1099511627776:Int)))||(decide (a>1099511627776))))
instance QoE:Spc1 prog 82 Qcu (λb=>[ti b]) tb:=.mk λ{b r} h=>by
 unfold Qcu at h
 refine Fe func82 ntmps82 λc M d a=>?_
 refine Qa 4 ?_
 refine Qa 128 ?_
 exact Qp h (·▸Qn a)
def Qgx (b:Int) (a:(List Bool)):Option (Bool):=(opt (((decide (b>=0))&&(decide (b<(a.length:Int))))==true) (idx a b) default).bind λc=>(some (((decide (b>=0))&&(decide (b<(a.length:Int))))&&c))
instance QlG:Spc2 prog 52 Qgx (λc a=>[ti c,tptr ((rSl Qag).cs a)]) tb:=.mk λ{c a r} h=>by
 unfold Qgx at h
 refine Fe func52 ntmps52 λd M e b=>?_
 refine Qa 12 ?_
 have⟨_,_,h⟩:=bs h
 refine Qa 32768 ?_
 exact Qp h (·▸Qn b)
def Qen (a:QA):Option ((List Int)):=(Qr (λ(s0:Int×List Int)=>(if (decide (s0.1<(a.Xb.length:Int)))=true then (idx a.Xb s0.1).bind λb=>(opt ((b.Xi==2)==false) (idx a.Xb s0.1) default).bind λc=>((if ((b.Xi==2)||(c.Xi==4))=true then (rm (s0.2.length+[s0.1].length)).bind λ_=>(some (s0.2++[s0.1])) else (some s0.2))).bind λd=>(some (.inl ((i64.wrap (s0.1+1)),d))) else (some (.inr s0.2)))) ((0:Int),([]:List Int))).bind λe=>(some e)
instance QCD:Spc1 prog 7 Qen (λf=>[Qq.ty f]) (tsl rI):=.mk λ{f r} h=>by
 unfold Qen at h
 refine Fe func7 ntmps7 λy M j c=>?_
 refine Qa 2 ?_
 refine Qa 6 ?_
 refine Q1 (λ_ _ H=>H.nil (rI) 3) ?_
 refine Qf λk l=>?_
 refine Qa 14 ?_
 have⟨m,h0,h⟩:=bs h
 have n:∀d e,d=m->To M j 33 [(3,tv e)] [own rI 3 d e] k:=by
  intro d e p;subst p;refine l <|Qa 14 ?_;refine QaA ?_;refine Qan (by intro _ _ H;exact (H.Xn 1 rfl).pick [0]) ?_;obtain rfl:=sj h;exact Qn c
 refine Qk <|QaU h0 (λs0 a=>[(4,ti s0.1),(3,tv a)]) 65665 (λs0 a=>[own rI 3 s0.2 a]) 1 (.slice none 0 0) 14 ?_;clear h;intro s0 a o z h q s;refine Qf λ_ t=>Qa 480 ?_;refine Qo h (λ_ h=>?_) λ_ h=>?_
 ·refine Qu <|t <|Qf λu v=>Qk ?_;have⟨_,_,_,_,h⟩:=bs2 h;refine Qa 1900544 ?_;have⟨w,g,h⟩:=bs h;refine tJ1 (λb=>[(3,tv b)]) 82305 (λb=>[own rI 3 w b]) 1 u (λb=>?_) λi=>?_
  ·refine v <|QJ 56 ?_;exact Q7 s b ((sj h).symm) 14
  replace h:=g;clear g;refine Qo h (λ_ h=>?_) λ_ h=>?_
  ·have⟨_,_,h⟩:=bs h;refine QaG [v1 3 (λv0=>own rI 3 (s0.2++[s0.1]) v0)] [4] 432 λx=>?_;obtain rfl:=sj h;exact QN (i (x 3)) 28
  refine Qu ?_;obtain rfl:=sj h;exact QN (i a) 131591
 refine QQ <|Q7 n a (q _ (sj h).symm) 8

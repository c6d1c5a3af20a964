/- The walk. No condition. -/
import Derived.Test.YtmhcoofnnmiejaaGreatDoorLib
import Derived.Test.YtmhcoofnnmiejaaGreatDoorBaseI
set_option linter.all false
open List Go.Proofs.Tryz Go.IntKind
namespace Go.Proofs.YtmhcoofnnmiejaaGreatDoor
noncomputable section
open Go.Sim
set_option maxRecDepth 100000
set_option maxHeartbeats 4000000
def Qds (a:Int->Option (Str)) (b:Int):Option (Str):=(if (decide (b<0))=true then (a (i64.wrap (0 - b))).bind λc=>(cat (([45]:Str).length+c.length)).bind λ_=>(some (([45]:Str)++c)) else (if (decide (b<10))=true then (some (Qkj [(u8.wrap (i64.wrap ((48:Int)+b)))])) else (a (i64.wrap (Int.tdiv b (10:Int)))).bind λd=>(cat (d.length+(Qkj [(u8.wrap (i64.wrap ((48:Int)+(Int.tmod b (10:Int)))))]).length)).bind λ_=>(some (d++(Qkj [(u8.wrap (i64.wrap ((48:Int)+(Int.tmod b (10:Int)))))])))))
theorem QoA {c:Int->Option (Str)} (b:∀(d:Int) (r:Str),c d=some r->FnOk prog 207 [ti d] [] (λ_=>[]) (λ_=>tv (.string (sB r)))) {d:Int} {r:Str} (h:Qds c d=some r):FnOk prog 207 [ti d] [] (λ_=>[]) (λ_=>tv (.string (sB r))):=by
 unfold Qds at h;refine fe func207 ntmps207 λp M q a e H=>?_;refine sr mx [] H (λ_=>.o (Ql .k)<|.n) λ_ a w H=>?_;have H:=H.t1_0 [1];refine wp_seq_k (λ_ f=>?_);refine sr mx [] H (λ_=>.q 0 rfl<|.o (QbO z0 .k)<|.n) λ_ a w H=>?_;have H:=H.to [1,2] [_,_] [] rfl rfl;refine wi H h (λg h=>?_) (λg h=>?_)
 ·refine wp_seq_k (λ_ i=>?_);have⟨s,h0,t,j,h⟩:=bs2 h;refine wr mx [] H (λ_=>.q 1 rfl<|.o (Qpq z0)<|.o (QO QqI (b _ _ h0) (.cons (.of z0)<|.nil))<|.o (Qn0 .k z0 j)<|.o (Ql z0)<|.n) λ_ a w H=>?_;have H:=H.t1_0 [4];refine i _ _ ?_;exact r0 h (·▸r1 e H (.tmp z0 .nil))
 refine wp_skip (f _ _ ?_);refine wp_seq_k (λ_ k=>?_);refine sr mx [] H (λ_=>.q 1 rfl<|.o (QbO z0 .k)<|.n) λ_ a w H=>?_;have H:=H.to [1,3] [_,_] [] rfl rfl;refine wi H h (λl h=>?_) (λl h=>?_)
 ·refine sr mx [] H (λ_=>.q 1 rfl<|.o (Qbg .k z0)<|.o (QhU ud3 ud5 z0)<|.o (Qaw (R:=(rInt .u8)) (us:=[(u8.wrap (i64.wrap ((48:Int)+d)))]) QpS tok5 (.cons z0<|.nil _) rfl (leb rfl))<|.o (Qxr QpS ud5 ud9 z0)<|.o (Ql z0)<|.n) λ_ a w H=>?_;have H:=H.t1_0 [5];exact r0 h (·▸r1 e H (.tmp z0 .nil))
 refine wp_skip (k _ _ ?_);refine wp_seq_k (λ_ m=>?_);have⟨u,n,v,o,h⟩:=bs2 h;refine wr mx [] H (λ_=>.q 1 rfl<|.o (Qxf z0 .k (by decide))<|.o (QO QqI (b _ _ n) (.cons (.of z0)<|.nil))<|.q 4 rfl<|.o (Qxg z0 .k (by decide))<|.o (Qbg .k z0)<|.o (QhU ud3 ud5 z0)<|.o (Qaw (R:=(rInt .u8)) (us:=[(u8.wrap (i64.wrap ((48:Int)+(Int.tmod d (10:Int)))))]) QpS tok5 (.cons z0<|.nil _) rfl (leb rfl))<|.o (Qxr QpS ud5 ud9 z0)<|.o (Qn0 z6 z0 o)<|.o (Ql z0)<|.n) λ_ a w H=>?_;have H:=H.t1_0 [10];refine m _ _ ?_;exact r0 h (·▸r1 e H (.tmp z0 .nil))
def Qed:Nat->Int->Option (Str)
 | 0=>λ_=>none
 | n+1=>Qds (Qed n)
def QcL (d:(List QT)) (b:Int) (a:Int) (c:Int) (e:Int):Option ((List QT)):=(if (e==0)=true then (some d) else (rm (d.length+[(QT.mk b a c e)].length)).bind λ_=>(some (d++[(QT.mk b a c e)])))
instance QF0:SpcS prog 125 (∀{d f b a c g r},QcL f b a c g=some r->FnOk prog 125 [tv d,ti b,ti a,ti c,ti g] [own Qae 190 f d] (λv=>[own Qae 190 r v]) (λv=>tv v)):=.mk λ{d f b a c g r} h=>by
 unfold QcL at h
 refine Fe func125 ntmps125 λj M k e=>?_
 refine Qa 124 ?_
 refine tIfs h 252 (λ_ h=>?_) λ_ h=>?_
 ·refine Qa 22 ?_
  exact Qp h (·▸QaQ d [0] e)
 have⟨_,_,h⟩:=bs h
 refine QU [v1 7 (λv0=>own Qae 190 (f++[(QT.mk b a c g)]) v0)] [8] 768 λi=>?_
 exact Qp h (·▸QaQ (i 7) [0] e)
def Qhs (a:(List Qe)):Option (Bool):=(if ((a.length:Int)==0)=true then (some false) else (idx a 0).bind λb=>(some (b.Xi==0)))
instance QEY:Spc1 prog 126 Qhs (λb=>[tsl Qd b]) tb:=.mk λ{b r} h=>by
 unfold Qhs at h
 refine Fe func126 ntmps126 λc M d a=>?_
 refine Qa 4 ?_
 refine tIfs h 24 (λ_ h=>?_) λ_ h=>?_
 ·refine Qa 2 ?_
  exact Qp h (·▸Qn a)
 have⟨_,_,h⟩:=bs h
 refine Qa 64 ?_
 exact Qp h (·▸Qn a)
def QfZ (a:(List Int)):Option (Bool):=(Qr (λ(s0:Int)=>((if (decide (s0<(a.length:Int)))=true then (idx a s0).bind λb=>(opt ((decide (b<0))==false) (idx a s0) default).bind λc=>(if ((decide (b<0))||(decide (c>65536)))=true then (some (.inr (.inr false))) else (some (.inl (i64.wrap (s0+1))))) else (some (.inr (.inl ())))):Option ((Int)⊕((Unit)⊕(Bool))))) (0:Int)).bind λd=>(match d with | .inl _=>(some true) | .inr e=>(some e))
instance QBb:Spc1 prog 63 QfZ (λc=>[tsl rI c]) tb:=.mk λ{c r} h=>by
 unfold QfZ at h
 refine Fe func63 ntmps63 λs M i a=>?_
 refine Qa 4 ?_
 refine Qf λj k=>?_
 refine Qa 6 ?_
 have⟨d,h0,h⟩:=bs h
 have l:∀e,(.inl e)=d->To M i 22 [] [] j:=by
  intro e b;subst b;simp only at h;refine k <|Qa 2 ?_;exact Qp h (·▸Qn a)
 refine tJr (λf=>[(2,tb f)]) 1 (λ_=>[]) 0 (.inr ·=d) (λf b=>?_) λm=>?_
 ·subst b;simp only at h;obtain rfl:=sj h;exact Qn a
 refine Qk <|Qaf h0 (λs0=>[(3,ti s0)]) 385 (λs0=>[]) 0 6 ?_;clear h;intro s0 o t h g n;refine Qf λ_ p=>Qa 112 ?_;refine Qo h (λ_ h=>?_) λ_ h=>?_
 ·refine Qu <|p <|Qf λ_ q=>Qk ?_;have⟨_,_,_,_,h⟩:=bs2 h;refine Qa 53248 ?_;refine Qo h (λ_ h=>?_) λ_ h=>?_
  ·refine Qa 2 ?_;refine QaA ?_;exact Qx m (g _ (sj h).symm) 2
  refine Qu <|q <|QJ 40 ?_;exact Qx n ((sj h).symm) 6
 refine QQ <|Qx l (g _ (sj h).symm) 0
def QgR (b:Qc) (a:(List Bool)):Option (Bool):=(Qr (λ(s0:Int×Int)=>(if (decide (s0.1<(b.Xa.length:Int)))=true then (idx a s0.1).bind λc=>((if (c&&(decide (s0.2<=131072)))=true then (idx b.Xa s0.1).bind λd=>(idx b.Xa s0.1).bind λe=>(some (i64.wrap (s0.2 * (i64.wrap ((i64.wrap (d.Hi - e.Lo))+1))))) else (some s0.2))).bind λf=>(some (.inl ((i64.wrap (s0.1+1)),f))) else (some (.inr s0.2)))) ((0:Int),(1:Int))).bind λg=>(some (decide (g<=131072)))
instance QCv:Spc2 prog 65 QgR (λd a=>[Qb.ty d,tsl Qag a]) tb:=.mk λ{d a r} h=>by
 unfold QgR at h
 refine Fe func65 ntmps65 λw M g b=>?_
 refine Qa 18 ?_
 refine Qa 14 ?_
 refine Qf λi j=>?_
 refine Qa 30 ?_
 have⟨k,h0,h⟩:=bs h
 have l:∀c,c=k->To M g 40 [(5,ti c)] [] i:=by
  intro c m;subst m;refine j <|Qa 8 ?_;exact Qp h (·▸Qn b)
 refine Qk <|Qaf h0 (λs0=>[(6,ti s0.1),(5,ti s0.2)]) 10551425 (λs0=>[]) 0 30 ?_;clear h;intro s0 o x h n p;refine Qf λ_ q=>Qa 992 ?_;refine Qo h (λ_ h=>?_) λ_ h=>?_
 ·refine Qu <|q <|Qf λs t=>Qk ?_;have⟨_,_,h⟩:=bs h;refine Qa 15616 ?_;have⟨u,e,h⟩:=bs h;refine tJ0 [(5,ti u)] 12665217 [] 0 s ?_ λf=>?_
  ·refine t <|QJ 120 ?_;exact Qx p ((sj h).symm) 30
  replace h:=e;clear e;refine Qo h (λ_ h=>?_) λ_ h=>?_
  ·have⟨_,v,h⟩:=bs h;replace h:=bk v h;refine QJ 3801088 ?_;obtain rfl:=sj h;exact QN f 30
  refine Qu ?_;obtain rfl:=sj h;exact QN f 21103111
 refine QQ <|Qx l (n _ (sj h).symm) 8
def Qd5 (c:Int) (d:Int) (a:Int) (b:Int):Option (Bool):=(some (((decide (c>=a))&&(decide (c<=d)))&&(decide (d<=b))))
instance QE7:Spc4 prog 189 Qd5 (λc d a b=>[ti c,ti d,ti a,ti b]) tb:=.mk λ{c d a b r} h=>by
 unfold Qd5 at h
 refine Fe func189 ntmps189 λf M g e=>?_
 refine Qa 60 ?_
 refine Qa 16384 ?_
 exact Qp h (·▸Qn e)
def Qgu (b:Str) (a:(Str->Option Bool)):Option (Bool):=(a b).bind λc=>(some (!c))
instance Quf:Spc2 prog 220 Qgu (λc a=>[tv (.string (sB c)),tptr (Qmz.cs a)]) tb:=.mk λ{c a r} h=>by
 unfold Qgu at h
 refine Fe func220 ntmps220 λd M e b=>?_
 refine Qa 12 ?_
 have⟨_,_,h⟩:=bs h
 refine Qa 32 ?_
 exact Qp h (·▸Qn b)
def QcC (a:(List Str)) (b:(Str->Option Bool)):Option (Int):=(Qr (λ(s0:Int)=>((if (decide (s0<(a.length:Int)))=true then (idx a s0).bind λc=>(b c).bind λd=>(if d=true then (some (.inr (.inr s0))) else (some (.inl (i64.wrap (s0+1))))) else (some (.inr (.inl ())))):Option ((Int)⊕((Unit)⊕(Int))))) (0:Int)).bind λe=>(match e with | .inl _=>(some (-1:Int)) | .inr f=>(some f))
instance QrQ:Spc2 prog 229 QcC (λc d=>[tsl rS c,Qmz.ty d]) ti:=.mk λ{c d r} h=>by
 unfold QcC at h
 refine Fe func229 ntmps229 λt M j a=>?_
 refine Qa 12 ?_
 refine Qf λk l=>?_
 refine Qa 60 ?_
 have⟨e,h0,h⟩:=bs h
 have m:∀f,(.inl f)=e->To M j 19 [] [] k:=by
  intro f b;subst b;simp only at h;refine l <|Qa 2 ?_;exact Qp h (·▸Qn a)
 refine tJr (λg=>[(4,ti g)]) 1 (λ_=>[]) 0 (.inr ·=e) (λg b=>?_) λn=>?_
 ·subst b;simp only at h;obtain rfl:=sj h;exact Qn a
 refine Qk <|Qaf h0 (λs0=>[(8,ti s0)]) 10551426 (λs0=>[]) 0 30 ?_;clear h;intro s0 o u h i p;refine Qa 62 ?_;refine Qf λ_ q=>Qo h (λ_ h=>?_) λ_ h=>?_
 ·refine Qu <|q <|Qf λ_ s=>Qk <|Qa 244 ?_;have⟨_,_,_,_,h⟩:=bs2 h;refine Qa 4032 ?_;refine Qo h (λ_ h=>?_) λ_ h=>?_
  ·refine Qa 4 ?_;refine QaA ?_;exact Qx n (i _ (sj h).symm) 2
  refine Qu <|s <|QJ 228 ?_;exact Qx p ((sj h).symm) 16875781
 refine QQ <|Qx m (i _ (sj h).symm) 0
def Qb4 (a:(List Str)) (b:(Str->Option Bool)):Option (Bool):=(QcC a b).bind λc=>(some (decide (c>=0)))
instance Qqs:Spc2 prog 219 Qb4 (λb c=>[tsl rS b,Qmz.ty c]) tb:=.mk λ{b c r} h=>by
 unfold Qb4 at h
 refine Fe func219 ntmps219 λd M e a=>?_
 refine Qa 12 ?_
 have⟨_,_,h⟩:=bs h
 refine Qa 32 ?_
 exact Qp h (·▸Qn a)
def Qdh (b:(List Str)) (a:(Str->Option Bool)):Option (Bool):=(Qb4 b (λx0=>Qgu x0 a)).bind λc=>(some (!c))
instance Qwt:Spc2 prog 193 Qdh (λc a=>[tsl rS c,Qmz.ty a]) tb:=.mk λ{c a r} h=>by
 unfold Qdh at h
 refine Fe func193 ntmps193 λd M e b=>?_
 refine Qa 10 ?_
 have⟨_,_,h⟩:=bs h
 refine Qa 32 ?_
 exact Qp h (·▸Qn b)
def Qhi (b:Qm) (a:Qm):Option (Bool):=(some (b.Xj==a.Xj))
instance Qz7:Spc2 prog 137 Qhi (λc a=>[Qs.ty c,tptr (Qs.cs a)]) tb:=.mk λ{c a r} h=>by
 unfold Qhi at h
 refine Fe func137 ntmps137 λd M e b=>?_
 refine Qa 18 ?_
 refine Qa 64 ?_
 exact Qp h (·▸Qn b)
def QbX (a:(List Int)) (b:(Int->Option Bool)):Option (Int):=(Qr (λ(s0:Int)=>((if (decide (s0<(a.length:Int)))=true then (idx a s0).bind λc=>(b c).bind λd=>(if d=true then (some (.inr (.inr s0))) else (some (.inl (i64.wrap (s0+1))))) else (some (.inr (.inl ())))):Option ((Int)⊕((Unit)⊕(Int))))) (0:Int)).bind λe=>(match e with | .inl _=>(some (-1:Int)) | .inr f=>(some f))
instance QtW:Spc2 prog 79 QbX (λc d=>[tsl rI c,QhY.ty d]) ti:=.mk λ{c d r} h=>by
 unfold QbX at h
 refine Fe func79 ntmps79 λt M j a=>?_
 refine Qa 12 ?_
 refine Qf λk l=>?_
 refine Qa 60 ?_
 have⟨e,h0,h⟩:=bs h
 have m:∀f,(.inl f)=e->To M j 19 [] [] k:=by
  intro f b;subst b;simp only at h;refine l <|Qa 2 ?_;exact Qp h (·▸Qn a)
 refine tJr (λg=>[(4,ti g)]) 1 (λ_=>[]) 0 (.inr ·=e) (λg b=>?_) λn=>?_
 ·subst b;simp only at h;obtain rfl:=sj h;exact Qn a
 refine Qk <|Qaf h0 (λs0=>[(8,ti s0)]) 10551426 (λs0=>[]) 0 30 ?_;clear h;intro s0 o u h i p;refine Qa 62 ?_;refine Qf λ_ q=>Qo h (λ_ h=>?_) λ_ h=>?_
 ·refine Qu <|q <|Qf λ_ s=>Qk <|Qa 244 ?_;have⟨_,_,_,_,h⟩:=bs2 h;refine Qa 4032 ?_;refine Qo h (λ_ h=>?_) λ_ h=>?_
  ·refine Qa 4 ?_;refine QaA ?_;exact Qx n (i _ (sj h).symm) 2
  refine Qu <|s <|QJ 228 ?_;exact Qx p ((sj h).symm) 16875781
 refine QQ <|Qx m (i _ (sj h).symm) 0
def QaO (a:(List Int)) (b:(Int->Option Bool)):Option (Bool):=(QbX a b).bind λc=>(some (decide (c>=0)))
instance QrT:Spc2 prog 39 QaO (λb c=>[tsl rI b,QhY.ty c]) tb:=.mk λ{b c r} h=>by
 unfold QaO at h
 refine Fe func39 ntmps39 λd M e a=>?_
 refine Qa 12 ?_
 have⟨_,_,h⟩:=bs h
 refine Qa 32 ?_
 exact Qp h (·▸Qn a)
def Qef (a:Int):Option (Bool):=(some ((decide (a<(-1099511627776:Int)))||(decide (a>1099511627776))))
instance QtX:Spc1 prog 109 Qef (λb=>[ti b]) tb:=.mk λ{b r} h=>by
 unfold Qef at h
 refine Fe func109 ntmps109 λc M d a=>?_
 refine Qa 4 ?_
 refine Qa 128 ?_
 exact Qp h (·▸Qn a)
def QcY (a:(List Int)) (b:Qc) (c:Int):Option (Bool):=(idx b.Xa c).bind λd=>(opt (((a.length:Int) !=(d.Xb.length:Int))==false) (QaO a (λx0=>Qef x0)) default).bind λe=>(some (((a.length:Int) !=(d.Xb.length:Int))||e))
instance Ql6:Spc3 prog 108 QcY (λd a b=>[tsl rI d,tptr (Qb.cs a),tptr (rI.cs b)]) tb:=.mk λ{d a b r} h=>by
 unfold QcY at h
 refine Fe func108 ntmps108 λe M f c=>?_
 refine Qa 28 ?_
 have⟨_,_,_,_,h⟩:=bs2 h
 refine Qa 32768 ?_
 exact Qp h (·▸Qn c)
def QdW (a:(List (List Int))) (b:((List Int)->Option Bool)):Option (Int):=(Qr (λ(s0:Int)=>((if (decide (s0<(a.length:Int)))=true then (idx a s0).bind λc=>(b c).bind λd=>(if d=true then (some (.inr (.inr s0))) else (some (.inl (i64.wrap (s0+1))))) else (some (.inr (.inl ())))):Option ((Int)⊕((Unit)⊕(Int))))) (0:Int)).bind λe=>(match e with | .inl _=>(some (-1:Int)) | .inr f=>(some f))
instance Qth:Spc2 prog 121 QdW (λc d=>[tsl (rSl rI) c,QpH.ty d]) ti:=.mk λ{c d r} h=>by
 unfold QdW at h
 refine Fe func121 ntmps121 λt M j a=>?_
 refine Qa 12 ?_
 refine Qf λk l=>?_
 refine Qa 60 ?_
 have⟨e,h0,h⟩:=bs h
 have m:∀f,(.inl f)=e->To M j 19 [] [] k:=by
  intro f b;subst b;simp only at h;refine l <|Qa 2 ?_;exact Qp h (·▸Qn a)
 refine tJr (λg=>[(4,ti g)]) 1 (λ_=>[]) 0 (.inr ·=e) (λg b=>?_) λn=>?_
 ·subst b;simp only at h;obtain rfl:=sj h;exact Qn a
 refine Qk <|Qaf h0 (λs0=>[(8,ti s0)]) 10551426 (λs0=>[]) 0 30 ?_;clear h;intro s0 o u h i p;refine Qa 62 ?_;refine Qf λ_ q=>Qo h (λ_ h=>?_) λ_ h=>?_
 ·refine Qu <|q <|Qf λ_ s=>Qk <|Qa 244 ?_;have⟨_,_,_,_,h⟩:=bs2 h;refine Qa 4032 ?_;refine Qo h (λ_ h=>?_) λ_ h=>?_
  ·refine Qa 4 ?_;refine QaA ?_;exact Qx n (i _ (sj h).symm) 2
  refine Qu <|s <|QJ 228 ?_;exact Qx p ((sj h).symm) 16875781
 refine QQ <|Qx m (i _ (sj h).symm) 0
def Qbq (a:(List (List Int))) (b:((List Int)->Option Bool)):Option (Bool):=(QdW a b).bind λc=>(some (decide (c>=0)))
instance QjX:Spc2 prog 83 Qbq (λb c=>[tsl (rSl rI) b,QpH.ty c]) tb:=.mk λ{b c r} h=>by
 unfold Qbq at h
 refine Fe func83 ntmps83 λd M e a=>?_
 refine Qa 12 ?_
 have⟨_,_,h⟩:=bs h
 refine Qa 32 ?_
 exact Qp h (·▸Qn a)
theorem Qlf {b:List Qm}:FnOk prog 110 [tsl Qs b] [] (λ_=>[]) (λ_=>Qbu 141 [tptr ((rSl Qs).cs b)]):=by
 refine fe func110 ntmps110 λg M h a c H=>?_;refine wp_seq_k (λe d=>?_);refine wr mx [] H (λ_=>.o (Qg4 (R:=(rSl Qs)) (u:=b) z0)<|.o (Ql .k)<|.n) λ_ a w H=>?_;have H:=H.t1_0 [0];refine d _ _ ?_;clear d e;refine wp_seq_k (λ_ f=>?_);refine wr mx [] H (λ_=>.o (Qic (.cons z0<|.nil))<|.o (Ql z0)<|.n) λ_ a w H=>?_;have H:=H.t1_0 [1];refine f _ _ ?_;refine wp_ret ?_;exact rt undef [] c H (.tmp z0 .nil)
def Qik (c:Qm) (a:Int):Option ((List Int)):=(Qr (λ(s0:Int×List Int)=>(if (decide (s0.1<(c.Xg.length:Int)))=true then (idx c.Xg s0.1).bind λb=>((if (b.a0==a)=true then (rm (s0.2.length+[b.a1].length)).bind λ_=>(some (s0.2++[b.a1])) else (some s0.2))).bind λd=>(some (.inl ((i64.wrap (s0.1+1)),d))) else (some (.inr s0.2)))) ((0:Int),([]:List Int))).bind λe=>(some e)
instance QrU:Spc2 prog 88 Qik (λg a=>[Qs.ty g,ti a]) (tsl rI):=.mk λ{g a r} h=>by
 unfold Qik at h
 refine Fe func88 ntmps88 λA M l d=>?_
 refine Qa 18 ?_
 refine Qa 14 ?_
 refine Q1 (λ_ _ H=>H.nil (rI) 3) ?_
 refine Qf λm n=>?_
 refine Qa 188 ?_
 have⟨p,h0,h⟩:=bs h
 have q:∀e f,e=p->To M l 26 [(5,tv f)] [own rI 3 e f] m:=by
  intro e f s;subst s;refine n <|Qa 14 ?_;refine QaA ?_;refine Qan (by intro _ _ H;exact (H.Xn 1 rfl).pick [0]) ?_;obtain rfl:=sj h;exact Qn d
 refine Qk <|QaU h0 (λs0 b=>[(11,ti s0.1),(5,tv b)]) 1612726658 (λs0 b=>[own rI 3 s0.2 b]) 1 (.slice none 0 0) 62 ?_;clear h;intro s0 b o B h t u;refine Qa 126 ?_;refine Qf λ_ v=>Qo h (λ_ h=>?_) λ_ h=>?_
 ·refine Qu <|v <|Qf λw x=>Qk ?_;have⟨i,_,h⟩:=bs h;refine QU [v1 2 (λv0=>box (QaR.cs (Qar.mk (0:Int) (0:Int))) v0),v1 2 (λv0=>box (QaR.cs i) v0)] [3,4] 1000 λC=>?_;refine Q1 (λ_ _ H=>(((H.Xk [1,0] rfl).Xl 0 rfl).add 0 rfl (λ_ _ _ h=>h.2)).pick [0,3,4,5,6,7]) ?_;refine Qa 2032 ?_;have⟨y,j,h⟩:=bs h;refine tJ1 (λc=>[(5,tv c)]) 2160148993 (λc=>[own rI 3 y c]) 1 w (λc=>?_) λk=>?_
  ·refine x <|QJ 124 ?_;exact Q7 u c ((sj h).symm) 2692776967
  replace h:=j;clear j;refine Qo h (λ_ h=>?_) λ_ h=>?_
  ·have⟨_,_,h⟩:=bs h;refine QaG [v1 4 (λv0=>own rI 3 (s0.2++[i.a1]) v0)] [5] 7776 λz=>?_;obtain rfl:=sj h;exact QN (k (z 4)) 124
  refine Qu ?_;obtain rfl:=sj h;exact QN (k b) 3779199757
 refine QQ <|Q7 q b (t _ (sj h).symm) 32
def QhF (a:(List Bool)):Option ((List Int)):=(Qr (λ(s0:Int×List Int)=>(if (decide (s0.1<(a.length:Int)))=true then (idx a s0.1).bind λb=>((if b=true then (rm (s0.2.length+[s0.1].length)).bind λ_=>(some (s0.2++[s0.1])) else (some s0.2))).bind λc=>(some (.inl ((i64.wrap (s0.1+1)),c))) else (some (.inr s0.2)))) ((0:Int),([]:List Int))).bind λd=>(some d)
instance QE9:Spc1 prog 113 QhF (λf=>[tsl Qag f]) (tsl rI):=.mk λ{f r} h=>by
 unfold QhF at h
 refine Fe func113 ntmps113 λy M j c=>?_
 refine Qa 4 ?_
 refine Qa 6 ?_
 refine Q1 (λ_ _ H=>H.nil (rI) 3) ?_
 refine Qf λk l=>?_
 refine Qa 30 ?_
 have⟨m,h0,h⟩:=bs h
 have n:∀d e,d=m->To M j 20 [(3,tv e)] [own rI 3 d e] k:=by
  intro d e p;subst p;refine l <|Qa 14 ?_;refine QaA ?_;refine Qan (by intro _ _ H;exact (H.Xn 1 rfl).pick [0]) ?_;obtain rfl:=sj h;exact Qn c
 refine Qk <|QaU h0 (λs0 a=>[(8,ti s0.1),(3,tv a)]) 2113922 (λs0 a=>[own rI 3 s0.2 a]) 1 (.slice none 0 0) 30 ?_;clear h;intro s0 a o z h q s;refine Qa 62 ?_;refine Qf λ_ t=>Qo h (λ_ h=>?_) λ_ h=>?_
 ·refine Qu <|t <|Qf λu v=>Qk ?_;have⟨_,_,h⟩:=bs h;refine Qa 1968 ?_;refine Qa 246 ?_;have⟨w,g,h⟩:=bs h;refine tJ1 (λb=>[(3,tv b)]) 12665345 (λb=>[own rI 3 w b]) 1 u (λb=>?_) λi=>?_
  ·refine v <|QJ 60 ?_;exact Q7 s b ((sj h).symm) 8422407
  replace h:=g;clear g;refine Qo h (λ_ h=>?_) λ_ h=>?_
  ·have⟨_,_,h⟩:=bs h;refine QaG [v1 3 (λv0=>own rI 3 (s0.2++[s0.1]) v0)] [4] 1840 λx=>?_;obtain rfl:=sj h;exact QN (i (x 3)) 60
  refine Qu ?_;obtain rfl:=sj h;exact QN (i a) 21103373
 refine QQ <|Q7 n a (q _ (sj h).symm) 32
def Qim (a:Int) (b:Int):Option (Int×Int):=(some ((u64.wrap ((u64.wrap ((u64.wrap ((ishr .u64 a (32:Int)) * (ishr .u64 b (32:Int))))+(ishr .u64 (u64.wrap ((u64.wrap ((ishr .u64 a (32:Int)) * (iand .u64 b (4294967295:Int))))+(ishr .u64 (u64.wrap ((iand .u64 a (4294967295:Int)) * (iand .u64 b (4294967295:Int)))) (32:Int)))) (32:Int))))+(ishr .u64 (u64.wrap ((iand .u64 (u64.wrap ((u64.wrap ((ishr .u64 a (32:Int)) * (iand .u64 b (4294967295:Int))))+(ishr .u64 (u64.wrap ((iand .u64 a (4294967295:Int)) * (iand .u64 b (4294967295:Int)))) (32:Int)))) (4294967295:Int))+(u64.wrap ((iand .u64 a (4294967295:Int)) * (ishr .u64 b (32:Int)))))) (32:Int)))),(u64.wrap (a * b))))
instance QFW:Spc2 prog 120 Qim (λb c=>[tv (.int .u64 b),tv (.int .u64 c)]) (λr=>ttup [tv (.int .u64 r.1),tv (.int .u64 r.2)]):=.mk λ{b c r} h=>by
 unfold Qim at h
 refine Fe func120 ntmps120 λd M e a=>?_
 refine Qa 24 ?_
 refine Qa 56 ?_ (λ_=>by refine' pr 1 ?_;refine' rx (.p rfl (Qqw z0 .k)) 1 ?_;exact rnn)
 refine Qa 120 ?_ (λ_=>by refine' pr 1 ?_;refine' rx (.p rfl (Qkz z0 .k (by decide))) 1 ?_;exact rnn)
 refine Qa 248 ?_ (λ_=>by refine' pr 1 ?_;refine' rx (.p rfl (Qqw z0 .k)) 1 ?_;exact rnn)
 refine Qa 504 ?_ (λ_=>by refine' pr 1 ?_;refine' rx (.p rfl (Qkz z0 .k (by decide))) 1 ?_;exact rnn)
 refine Qa 2032 ?_
 refine Qa 31360 ?_ (λ_=>by refine' pr 4 ?_;refine' rx (.p rfl (Qkz z0 .k (by decide))) 2 ?_;exact rnn)
 refine Qa 1016 ?_ (λ_=>by refine' pr 1 ?_;refine' rx (.p rfl (Qqw z0 .k)) 1 ?_;exact rnn)
 refine Qa 2008 ?_ (λ_=>by refine' pr 1 ?_;refine' rx (.p rfl (Qkz z0 .k (by decide))) 1 ?_;exact rnn)
 refine Qa 7104 ?_
 refine Qa 49664 ?_ (λ_=>by refine' pr 6 ?_;refine' rx (.p rfl (Qkz z0 .k (by decide))) 2 ?_;exact rnn)
 refine Qa 48 ?_
 exact Qp h (·▸Qn a)
def QjY (b:Int) (c:Int):Option (Int×Int):=(Qim b c).bind λa=>(some (a.1,a.2))
instance Qui:Spc2 prog 80 QjY (λb c=>[tv (.int .u64 b),tv (.int .u64 c)]) (λr=>ttup [tv (.int .u64 r.1),tv (.int .u64 r.2)]):=.mk λ{b c r} h=>by
 unfold QjY at h
 refine Fe func80 ntmps80 λe M f a=>?_
 refine Qa 24 ?_
 refine Qf λ_ d=>?_
 refine QES ?_
 refine Qu ?_
 refine d ?_
 have⟨_,_,h⟩:=bs h
 refine Qa 384 ?_
 refine Qa 24 ?_
 exact Qp h (·▸Qn a)
def QfB (a:(List Int)) (b:Int) (c:(Int->Option Bool)):Option (Bool):=(opt (((a.length:Int) !=(i64.wrap (b+1)))==false) (QaO a c) default).bind λd=>(some (((a.length:Int) !=(i64.wrap (b+1)))||d))
instance Qz9:Spc3 prog 84 QfB (λa b c=>[tsl rI a,tptr (rI.cs b),tptr (QhY.cs c)]) tb:=.mk λ{a b c r} h=>by
 unfold QfB at h
 refine Fe func84 ntmps84 λe M f d=>?_
 refine Qa 28 ?_
 have⟨_,_,h⟩:=bs h
 refine Qa 2048 ?_
 exact Qp h (·▸Qn d)
def Qeh (a:(List Int)):Option (Int):=(if (decide ((a.length:Int)<1))=true then none else (idx a 0).bind λb=>(Qr (λ(s0:Int×Int)=>(if (decide (s0.1<(a.length:Int)))=true then (idx a s0.1).bind λc=>(some (.inl ((i64.wrap (s0.1+1)),(imax s0.2 c)))) else (some (.inr s0.2)))) ((1:Int),b)).bind λd=>(some d))
instance QoF:Spc1 prog 85 Qeh (λc=>[tsl rI c]) ti:=.mk λ{c r} h=>by
 unfold Qeh at h
 refine Fe func85 ntmps85 λp M d a=>?_
 refine Qa 4 ?_
 refine tIfs h 24 (λ_ h=>?_) λ_ h=>?_
 ·cases h
 have⟨_,_,h⟩:=bs h
 refine Qa 80 ?_
 refine Qf λe f=>?_
 refine Qa 14 ?_
 have⟨g,h0,h⟩:=bs h
 have i:∀b,b=g->To M d 25 [(3,ti b)] [] e:=by
  intro b j;subst j;refine f <|Qa 4 ?_;exact Qp h (·▸Qn a)
 refine Qk <|Qaf h0 (λs0=>[(4,ti s0.1),(3,ti s0.2)]) 65665 (λs0=>[]) 0 14 ?_;clear h;intro s0 o q h k l;refine Qf λ_ m=>Qa 240 ?_;refine Qo h (λ_ h=>?_) λ_ h=>?_
 ·refine Qu <|m <|Qf λ_ n=>Qk ?_;have⟨_,_,h⟩:=bs h;refine QJ 1664 ?_;refine n <|QJ 56 ?_;exact Qx l ((sj h).symm) 14
 refine QQ <|Qx i (k _ (sj h).symm) 8
def Qhc (a:(Int->Option Bool)) (b:(List Int)):Option (Int):=(QbX b a).bind λc=>(if (decide (c>=0))=true then (idx b c).bind λd=>(some d) else (Qr (λ(s0:Int)=>((a s0).bind λe=>(if ((!e)&&(decide (s0<12)))=true then (some (.inl (i64.wrap (s0+1)))) else (some (.inr s0))))) (0:Int)).bind λf=>(some f))
instance Qm1:Spc2 prog 47 Qhc (λa d=>[QhY.ty a,tsl rI d]) ti:=.mk λ{a d r} h=>by
 unfold Qhc at h
 refine Fe func47 ntmps47 λq M e b=>?_
 refine Qa 12 ?_
 refine Qf λ_ f=>?_
 have⟨_,_,h⟩:=bs h
 refine Qa 112 ?_
 refine Qa 60 ?_
 refine Qo h (λ_ h=>?_) λ_ h=>?_
 ·have⟨_,_,h⟩:=bs h
  refine Qa 32 ?_
  exact Qp h (·▸Qn b)
 refine Qu ?_
 refine f ?_
 refine Qa 18 ?_
 refine Qf λg i=>?_
 have⟨j,h0,h⟩:=bs h
 have k:∀c,c=j->To M e 27 [(6,ti c)] [] g:=by
  intro c l;subst l;refine i <|Qa 4 ?_;exact Qp h (·▸Qn b)
 refine Qk <|Qaf h0 (λs0=>[(6,ti s0)]) 385 (λs0=>[]) 0 6 ?_;clear h;intro s0 o s h m n;refine Qf λ_ p=>?_;have⟨_,_,h⟩:=bs h;refine Qa 1792 ?_;refine Qo h (λ_ h=>?_) λ_ h=>?_
 ·refine Qu <|p <|Qk <|QJ 40 ?_;exact Qx n ((sj h).symm) 6
 refine QQ <|Qx k (m _ (sj h).symm) 4
def QeF (b:Qm) (a:Qe):Option (Bool):=(some (b.Xj==a.Of))
instance QlF:Spc2 prog 50 QeF (λc a=>[Qs.ty c,tptr (Qd.cs a)]) tb:=.mk λ{c a r} h=>by
 unfold QeF at h
 refine Fe func50 ntmps50 λd M e b=>?_
 refine Qa 18 ?_
 refine Qa 64 ?_
 exact Qp h (·▸Qn b)
def Qea (a:(List Int)) (b:Int):Option (Int):=(Qr (λ(s0:Int)=>((if (decide (s0<(a.length:Int)))=true then (idx a s0).bind λc=>(if (c==b)=true then (some (.inr (.inr s0))) else (some (.inl (i64.wrap (s0+1))))) else (some (.inr (.inl ())))):Option ((Int)⊕((Unit)⊕(Int))))) (0:Int)).bind λd=>(match d with | .inl _=>(some (-1:Int)) | .inr e=>(some e))
instance QF3:Spc2 prog 55 Qea (λc d=>[tsl rI c,ti d]) ti:=.mk λ{c d r} h=>by
 unfold Qea at h
 refine Fe func55 ntmps55 λt M j a=>?_
 refine Qa 12 ?_
 refine Qf λk l=>?_
 refine Qa 14 ?_
 have⟨e,h0,h⟩:=bs h
 have m:∀f,(.inl f)=e->To M j 19 [] [] k:=by
  intro f b;subst b;simp only at h;refine l <|Qa 2 ?_;exact Qp h (·▸Qn a)
 refine tJr (λg=>[(4,ti g)]) 1 (λ_=>[]) 0 (.inr ·=e) (λg b=>?_) λn=>?_
 ·subst b;simp only at h;obtain rfl:=sj h;exact Qn a
 refine Qk <|Qaf h0 (λs0=>[(5,ti s0)]) 65921 (λs0=>[]) 0 14 ?_;clear h;intro s0 o u h i p;refine Qf λ_ q=>Qa 240 ?_;refine Qo h (λ_ h=>?_) λ_ h=>?_
 ·refine Qu <|q <|Qf λ_ s=>Qk ?_;have⟨_,_,h⟩:=bs h;refine Qa 1856 ?_;refine Qo h (λ_ h=>?_) λ_ h=>?_
  ·refine Qa 4 ?_;refine QaA ?_;exact Qx n (i _ (sj h).symm) 2
  refine Qu <|s <|QJ 104 ?_;exact Qx p ((sj h).symm) 14
 refine QQ <|Qx m (i _ (sj h).symm) 0

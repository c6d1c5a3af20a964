/- The walk. No condition. -/
import Derived.Test.YtohojolgolinoaaGreatDoorGenH
set_option linter.all false
open List Go.Proofs.Tryz Go.IntKind
namespace Go.Proofs.YtohojolgolinoaaGreatDoor
noncomputable section
open Go.Sim
set_option maxRecDepth 100000
set_option maxHeartbeats 4000000
def Ib (t:QR):Option ((List Qe)×QR):=(QS t 6).bind λa=>if a.1==0 then (QS a.2 11).bind λk=>(QS k.2 20).bind λo=>some ([Qe.mk ([115,105,122,101]:Str) ([]:Str) ([]:Str) 2 (i64.wrap (k.1 - 5)) (i64.wrap ((i64.wrap (k.1 - 5))+o.1)) ([]:(List Str)) ([]:Lz)],o.2) else if a.1==1 then (QS a.2 3).bind λp=>(sub [([114,101,100]:Str),([103,114,101,101,110]:Str),([98,108,117,101]:Str)] 0 (i64.wrap (1+p.1))).bind λl=>(Qr (λ(s0:Int×Lz×QR)=>if decide (s0.1<(l.length:Int)) then (QS s0.2.2 5).bind λm=>(rm (s0.2.1.length+[m.1].length)).bind λ_=>some (.inl (i64.wrap (s0.1+1),s0.2.1++[m.1],m.2)) else some (.inr (s0.2.1,s0.2.2))) (0,[],p.2)).bind λq=>(QS q.2 (l.length:Int)).bind λr=>(QS r.2 3).bind λs=>(setAt q.1 r.1 (i64.wrap (1+s.1))).bind λu=>some ([Qe.mk ([116,97,103]:Str) ([]:Str) ([]:Str) 3 0 0 l u],s.2) else if a.1==2 then (QS a.2 400).bind λn=>(QS n.2 60).bind λc=>(QS c.2 3).bind λd=>(QS d.2 30).bind λe=>some ([Qe.mk ([98,111,114,110]:Str) ([]:Str) ([]:Str) 4 (i64.wrap (n.1 - 200)) (i64.wrap ((i64.wrap (n.1 - 200))+c.1)) ([]:(List Str)) ([]:Lz),Qe.mk ([108,101,102,116]:Str) ([98,111,114,110]:Str) ([]:Str) 4 d.1 (i64.wrap (3+e.1)) ([]:(List Str)) ([]:Lz)],e.2) else if a.1==3 then (QS a.2 3).bind λb=>(QS b.2 4).bind λf=>some ([Qe.mk ([115,116,97,116,101]:Str) ([108,105,102,101]:Str) ([]:Str) 5 b.1 (i64.wrap (b.1+f.1)) ([]:(List Str)) ([]:Lz)],f.2) else if a.1==4 then (QS a.2 5).bind λg=>(QS g.2 10).bind λh=>(QS h.2 5).bind λi=>(QS i.2 10).bind λj=>some ([Qe.mk ([108,111,119]:Str) ([]:Str) ([]:Str) 2 g.1 (i64.wrap (5+h.1)) ([]:(List Str)) ([]:Lz),Qe.mk ([104,105,103,104]:Str) ([]:Str) ([]:Str) 2 i.1 (i64.wrap (10+j.1)) ([]:(List Str)) ([]:Lz)],j.2) else some ([],a.2)
instance vJ:SpcS prog 109 (∀{b p r},Ib p=some r->FnOk prog 109 [tv b] [box (QC.cs p) b] (λ_=>[box (QC.cs r.2) b]) (λ_=>tsl Qd r.1)):=.mk λ{b p r} h=>by
 refine Fe func109 ntmps109 λM0 M w0 c=>?_
 apply Qa 4
 refine Qf λ_ A=>?_
 have⟨B,_,h⟩:=bs h
 refine QU [v0 (box (QC.cs B.2) b)] [2] 12 λm0=>?_
 apply Qk
 apply Qa 28
 apply Qo h<;>intro _ h
 ·have⟨C,_,D,_,h⟩:=bs2 h
  refine QU [v0 (box (QC.cs C.2) b)] [2] 144 λm1=>?_
  refine QU [v0 (box (QC.cs D.2) b)] [4] 1280 λm2=>?_
  exact Qp h (·▸AO undef [0] c)
 apply Qa 52
 apply Qo h<;>intro _ h
 ·have⟨E,_,e,_,F,h0,h⟩:=bs3 h
  refine QU [v0 (box (QC.cs E.2) b)] [3] 576 λm3=>?_
  refine QU [vb 2 (Qd.cs zz0),vb 2 ([tv (.string (sB ([116,97,103]:Str))),tv (.string (sB ([]:Str))),tv (.string (sB ([]:Str))),ti (3:Int),ti (0:Int),ti (0:Int),tsl rS e,tvs nilV])] [3,4] 56 (λl=>?_) (λ_=>by refine' pr 1 ?_;refine' rx (.p (T:=tagg ([tv (.string (sB ([116,97,103]:Str))),tv (.string (sB ([]:Str))),tv (.string (sB ([]:Str))),ti (3:Int),ti (0:Int),ti (0:Int),tsl rS e,tvs nilV])) rfl (Cm ud44 pl44 zv44 WY.1 (.cons (R:=rS) (u:=([116,97,103]:Str)) rfl .k (leb rfl)<|.cons (R:=rI) (u:=(3:Int)) rfl .k (leb rfl)<|.cons (R:=(rSl rS)) (u:=e) rfl z0 (leb rfl)<|.nil _))) 1 ?_;refine' rx (.e [] [1] [2] rfl rfl rfl rfl (Ec (R:=(rAgg ([tv (.string (sB ([116,97,103]:Str))),tv (.string (sB ([]:Str))),tv (.string (sB ([]:Str))),ti (3:Int),ti (0:Int),ti (0:Int),tsl rS e,tvs nilV]) (Qt (QZ rfl) (Qt (QZ rfl) (Qt (QZ rfl) (Qt (QZ rfl) (Qt (QZ rfl) (Qt (QZ rfl) (Qt DB (Qt BV Ae)))))))))) (a:=()) (tokA Em (Qt (QZ rfl) (Qt (QZ rfl) (Qt (QZ rfl) (Qt (QZ rfl) (Qt (QZ rfl) (Qt (QZ rfl) (Qt DB (Qt BV Ae)))))))) rfl rfl) z0 z1 (leb rfl))) 0 ?_;exact rnn)
  apply tNl rI 3
  refine Qf λI K=>?_
  apply Qa 30
  refine tJq (λ_ _=>[]) 16259 (λq m=>[own rI 3 q.1 m,box (QC.cs q.2) b,box ([tv (.string (sB ([116,97,103]:Str))),tv (.string (sB ([]:Str))),tv (.string (sB ([]:Str))),ti (3:Int),ti (0:Int),ti (0:Int),tsl rS e,tvs m]) (l 2)]) 16513 I (·=F) (λq m L=>?_) λN=>?_
  ·subst L
   apply K
   have⟨O,_,x,_,y,_,h⟩:=bs3 h
   refine QU [v0 (box (QC.cs O.2) b),v0 (box (QC.cs x.2) b),v0 (own rI 3 y m)] [6,8,11] 10244 λm5=>?_
   refine Q1 (As'':=[box (Qd.cs (Qe.mk ([116,97,103]:Str) ([]:Str) ([]:Str) (3:Int) (0:Int) (0:Int) e y)) (l 2),box (QC.cs x.2) b]) (λ_ _ H=>((H.pick [1,2]).Xk [2,0,1] rfl).Xm 7 rfl) ?_
   apply Qa 40
   apply tSl [1]
   exact Qp h (·▸AO undef [0] c)
  apply Qk
  refine AT h0 (λs0 j=>[(6,ti s0.1)]) 2081153 (λs0 j=>[own rI 3 s0.2.1 j,box (QC.cs s0.2.2) b,box ([tv (.string (sB ([116,97,103]:Str))),tv (.string (sB ([]:Str))),tv (.string (sB ([]:Str))),ti (3:Int),ti (0:Int),ti (0:Int),tsl rS e,tvs j]) (l 2)]) 16513 nilV 30 ?_
  intro s0 j o K1 h P Q
  refine Qf λ_ S=>?_
  apply Qa 496
  apply Qo h<;>intro _ h
  ·apply Qu
   apply S
   refine Qf λ_ U=>?_
   apply Qk
   have⟨z,_,_,_,h⟩:=bs2 h
   refine AB [v0 (box (QC.cs z.2) b),vo 5 rI 3 (s0.2.1++[z.1]),v1 5 (λv0=>box ([tv (.string (sB ([116,97,103]:Str))),tv (.string (sB ([]:Str))),tv (.string (sB ([]:Str))),ti (3:Int),ti (0:Int),ti (0:Int),tsl rS e,tvs v0]) (l 2))] [4,6,8] 7744 λV=>?_
   apply U
   apply QJ 248
   refine AA (λ_ _ H=>(H.pick [0,2,3,4]).Xk [1,0,2] rfl) ?_
   exact Q7 Q (V 5) (sy h) 30
  apply QQ
  exact Q7 N j (P _ (sy h)) 56
 apply Qa 52
 apply Qo h<;>intro _ h
 ·have⟨n,_,k,_,f,_,g,_,h⟩:=bs4 h
  refine QU [v0 (box (QC.cs n.2) b),vb 4 (Qd.cs zz0),vb 4 (Qd.cs (Qe.mk ([98,111,114,110]:Str) ([]:Str) ([]:Str) (4:Int) (i64.wrap (n.1 - 200)) (0:Int) ([]:(List Str)) ([]:Lz)))] [2,5,6] 288 λW=>?_
  refine QU [v0 (box (QC.cs k.2) b),v0 (box (Qd.cs (Qe.mk ([98,111,114,110]:Str) ([]:Str) ([]:Str) (4:Int) (i64.wrap (n.1 - 200)) (i64.wrap ((i64.wrap (n.1 - 200))+k.1)) ([]:(List Str)) ([]:Lz))) (W 4))] [4,7] 384 λm8=>?_
  refine QU [v0 (box (QC.cs f.2) b),v0 (box (QC.cs g.2) b)] [3,5] 2560 (λm9=>?_) (λ_=>by refine' pr 6 ?_;refine' rx (.p (T:=Qd.ty (Qe.mk ([108,101,102,116]:Str) ([98,111,114,110]:Str) ([]:Str) (4:Int) f.1 (i64.wrap ((3:Int)+g.1)) ([]:(List Str)) ([]:Lz))) rfl (Cm ud44 pl44 zv44 zc44 (.cons (R:=rS) (u:=([108,101,102,116]:Str)) rfl .k (leb rfl)<|.cons (R:=rI) (u:=(4:Int)) rfl .k (leb rfl)<|.cons (R:=rS) (u:=([98,111,114,110]:Str)) rfl .k (leb rfl)<|.cons (R:=rI) (u:=f.1) rfl z3 (leb rfl)<|.cons (R:=rI) (u:=(i64.wrap ((3:Int)+g.1))) rfl z0 (leb rfl)<|.nil _))) 2 ?_;exact rnn)
  apply tSl [1]
  exact Qp h (·▸AO undef [0] c)
 apply Qa 52
 apply Qo h<;>intro _ h
 ·have⟨d,_,i,_,h⟩:=bs2 h
  refine QU [v0 (box (QC.cs d.2) b)] [2] 72 λX=>?_
  refine QU [v0 (box (QC.cs i.2) b)] [4] 1280 (λY=>?_) (λ_=>by refine' pr 5 ?_;refine' rx (.p (T:=Qd.ty (Qe.mk ([115,116,97,116,101]:Str) ([108,105,102,101]:Str) ([]:Str) (5:Int) d.1 (i64.wrap (d.1+i.1)) ([]:(List Str)) ([]:Lz))) rfl (Cm ud44 pl44 zv44 zc44 (.cons (R:=rS) (u:=([115,116,97,116,101]:Str)) rfl .k (leb rfl)<|.cons (R:=rI) (u:=(5:Int)) rfl .k (leb rfl)<|.cons (R:=rS) (u:=([108,105,102,101]:Str)) rfl .k (leb rfl)<|.cons (R:=rI) (u:=d.1) rfl z4 (leb rfl)<|.cons (R:=rI) (u:=(i64.wrap (d.1+i.1))) rfl z0 (leb rfl)<|.nil _))) 2 ?_;exact rnn)
  exact Qp h (·▸AO undef [0] c)
 apply Qa 36
 apply Qo h<;>intro _ h
 ·have⟨s,_,t,_,v,_,w,_,h⟩:=bs4 h
  refine QU [v0 (box (QC.cs s.2) b),v0 (box (QC.cs t.2) b),v0 (box (QC.cs v.2) b),v0 (box (QC.cs w.2) b)] [2,4,8,10] 81920 λZ=>?_
  exact Qp h (·▸AO undef [0] c)
 apply Qu
 apply A
 apply Qa 10
 exact Qp h (·▸AO undef [0] c)
theorem gD {g:(List QK)->(List Bool)->Lz->Lz->Option Lz} (e:∀(i:(List QK)) (b:(List Bool)) (c:Lz) (d:Lz) (r:Lz),g i b c d=some r->FnOk prog 114 [tsl BL i,tsl AE b,tsl rI c,tsl rI d] [] (λ_=>[]) (λ_=>tsl rI r)) {i:(List QK)} {b:(List Bool)} {c:Lz} {d:Lz} {r:Lz} (h:Ig g i b c d=some r):FnOk prog 114 [tsl BL i,tsl AE b,tsl rI c,tsl rI d] [] (λ_=>[]) (λ_=>tsl rI r):=by
 unfold Ig at h;refine fe func114 ntmps114 λZ M n a f H=>?_;refine sr mx [] H (λ_=>.o (Ql (.nilsl (R:=rI)))<|.n) λ_ a w H=>?_;have H:=H.to [1,2,3,4] [_,_,_,_] [] rfl rfl;refine wp_seq_k (λ_ q=>?_);refine sr mx [] H (λ_=>.q 3 rfl<|.o (Hz ud22 z0)<|.q 4 rfl<|.o (Hz ud22 z0)<|.o (JS z2 z0)<|.n) λ_ a w H=>?_;have H:=H.to [4,5,6,7,8] [_,_,_,_,_] [] rfl rfl;refine wi H h (λs h=>?_) (λs h=>?_)
 ·refine wp_seq_k (λ_ t=>?_);have⟨u0,h0,h⟩:=bs h;refine wr mx [v1 0 (λv0=>own rI 3 ([]:Lz) v0)] H (λ_=>.m [] [0] rfl rfl rfl (M9 (R:=rI) (us:=([]:Lz)) ud22 tok3 (.nil _) rfl (leb rfl) (leb rfl))<|.q 5 rfl<|.e [] [0] [] rfl rfl rfl rfl (.roE (Ef (R:=rI) ud22 tok3 (leb rfl) z1 z0 h0))<|.o (Ql z0)<|.n) λ_ a w H=>?_;have H:=H.t1_0 [3];apply t _ _;exact r0 h (·▸r1 f H (.tmp z0 .nil))
 refine wp_skip (q _ _ ?_);have⟨j,u,h⟩:=bs h;refine sr mx [] H (λ_=>.q 1 rfl<|.q 5 rfl<|.o (QO cal (fS.ok u) (.cons (.of z1)<|.cons (.of z0)<|.nil))<|.q 0 rfl<|.o (Ea z0 rfl)<|.o (Ea z1 rfl)<|.o (Ql z1)<|.o (Ql z1)<|.n) λ_ a w H=>?_;have H:=H.to [6,7,9,10,11,12] [_,_,_,_,_,_] [] rfl rfl;refine wp_seq_k (λ_ v=>?_);refine sr mx [] H (λ_=>.q 0 rfl<|.q 2 rfl<|.o (UX z1 z0)<|.n) λ_ a w H=>?_;have H:=H.t7_0 [2,3,4,5,6,7,8];refine wi H h (λx h=>?_) (λx h=>?_)
 ·refine sr mx [] H (λ_=>.o (Ql (.nilsl (R:=rI)))<|.n) λ_ a w H=>?_;have H:=H.t1_0 [0];exact r0 h (·▸r1 f H (.tmp z0 .nil))
 refine wp_skip (v _ _ ?_);refine wp_seq_k (λ_ y=>?_);have⟨t1,z,h⟩:=bs h;refine sr mx [] H (λ_=>.q 4 rfl<|.q 7 rfl<|.o (Hz ud22 z0)<|.o (JN underlying128 tok4 z2 z0 z)<|.o (Q4 tok4 z0)<|.o (Mo z0)<|.n) λ_ a w H=>?_;have H:=H.t7_0 [5,7,8,9,10,11,12];refine wi H h (λA h=>?_) (λA h=>?_)
 ·have⟨B,C,h⟩:=bs h;refine sr mx [] H (λ_=>.q 5 rfl<|.q 7 rfl<|.o (Hz ud22 z0)<|.o (JN ud22 tok3 z2 z0 C)<|.o (Q4 tok3 z0)<|.q 6 rfl<|.o (UY z1 z0)<|.q 9 rfl<|.o (UZ z1 z0)<|.o (Ql z0)<|.n) λ_ a w H=>?_;have H:=H.to [9,13,14,15,16] [_,_,_,_,_] [] rfl rfl;refine wp_seq_k (λ_ D=>?_);have⟨u1,E,u2,F,t3,I,h⟩:=bs3 h;refine wr mx [v1 3 (λv0=>own rI 3 ([]:Lz) v0),v1 5 (λv0=>own rI 3 (([]:Lz)++d) v0)] H (λ_=>.q 1 rfl<|.q 3 rfl<|.q 5 rfl<|.m [] [0] rfl rfl rfl (M9 (R:=rI) (us:=([]:Lz)) ud22 tok3 (.nil _) rfl (leb rfl) (leb rfl))<|.q 8 rfl<|.e [] [0] [1] rfl rfl rfl rfl (Ef (R:=rI) ud22 tok3 (leb rfl) z1 z0 E)<|.q 6 rfl<|.o (Gd (R:=rI) (us:=[imin (imax B j.1) j.2]) ud22 tok3 (.cons z0<|.nil _) rfl (leb rfl))<|.e [] [1] [] rfl rfl rfl rfl (.roE (Ef (R:=rI) ud22 tok3 (leb rfl) z2 z0 F))<|.o (QO cal (e _ _ _ _ _ I) (.cons (.of z8)<|.cons (.of z7)<|.cons (.of z6)<|.cons (.of z0)<|.nil))<|.o (Ql z0)<|.n) λ_ a w H=>?_;have H:=H.t1_0 [10];apply D _ _;exact r0 h (·▸r1 f H (.tmp z0 .nil))
 refine wp_skip (y _ _ ?_);refine sr mx [] H (λ_=>.o (Ql (.nilsl (R:=rI)))<|.n) λ_ a w H=>?_;have H:=H.t7_0 [0,2,3,4,5,6,7];refine wp_seq_k (λK L=>?_);refine sr mx [] H (λ_=>.q 1 rfl<|.o (Ql z0)<|.n) λ_ a w H=>?_;have H:=H.t7_0 [1,2,4,5,6,7,8];have⟨N,O,h⟩:=bs h;have P:∀(k:Lz) a w,k=N->St M n 76 [(12,tsl rI k)] [] a w->K a w:=by
  intro k a w Q H;subst Q;apply L _ _;refine sr mx [] H (λ_=>.q 0 rfl<|.o (Ql z0)<|.n) λ_ a w H=>?_;have H:=H.t1_0 [1];exact r0 h (·▸r1 f H (.tmp z0 .nil))
 apply wp_block;refine JM _ (λ(s0:Int×Lz) a w=>St M n 76 [(13,ti s0.1),(12,tsl rI s0.2),(10,ti j.2),(0,tsl BL i),(1,tsl AE b),(2,tsl rI c),(3,tsl rI d)] [] a w) _ _ O (H.pick [0,1,2,3,4,5,6]) ?_;clear h;intro s0 o a w K1 p h S T;have H:=p;clear p;refine wp_seq_k (λ_ U=>?_);refine sr mx [] H (λ_=>.q 0 rfl<|.q 3 rfl<|.o (UQ z1 z0)<|.n) λ_ a w H=>?_;have H:=H.to [2,3,4,5,6,7,8,9] [_,_,_,_,_,_,_,_] [] rfl rfl;refine wi H h (λV h=>?_) (λV h=>?_)
 ·refine wp_skip (U _ _ ?_);refine wp_seq_k (λ_ W=>?_);apply wp_block;have⟨u3,X,u4,Y,t4,l,t5,m,h⟩:=bs4 h;refine wr mx [v1 5 (λv0=>own rI 3 ([]:Lz) v0),v1 7 (λv0=>own rI 3 (([]:Lz)++d) v0)] H (λ_=>.q 6 rfl<|.q 3 rfl<|.q 6 rfl<|.q 8 rfl<|.q 10 rfl<|.m [] [0] rfl rfl rfl (M9 (R:=rI) (us:=([]:Lz)) ud22 tok3 (.nil _) rfl (leb rfl) (leb rfl))<|.q 13 rfl<|.e [] [0] [1] rfl rfl rfl rfl (Ef (R:=rI) ud22 tok3 (leb rfl) z1 z0 X)<|.q 9 rfl<|.o (Gd (R:=rI) (us:=[s0.1]) ud22 tok3 (.cons z0<|.nil _) rfl (leb rfl))<|.e [] [1] [] rfl rfl rfl rfl (.roE (Ef (R:=rI) ud22 tok3 (leb rfl) z2 z0 Y))<|.o (QO cal (e _ _ _ _ _ l) (.cons (.of z8)<|.cons (.of z7)<|.cons (.of z6)<|.cons (.of z0)<|.nil))<|.o (QO cal (eT.ok m) (.cons (.of z11)<|.cons (.of z10)<|.cons (.of z0)<|.nil))<|.o (Ql z0)<|.n) λ_ a w H=>?_;have H:=H.t7_0 [13,15,16,17,18,19,20];apply W _ _;refine wr mx [] H (λ_=>.q 1 rfl<|.o (MN z0 .k)<|.o (Ql z0)<|.n) λ_ a w H=>?_;have H:=H.t7_0 [2,3,4,5,6,7,8];exact T _ _ _ (sy h) (H.pick [0,1,2,3,4,5,6])
 apply wp_exit;exact P _ _ _ (S _ (sy h)) (H.pick [2])
theorem Ua:∀(n:Nat) (d:(List QK)) (a:(List Bool)) (b:Lz) (c:Lz) (r:Lz),Hf n d a b c=some r->FnOk prog 114 [tsl BL d,tsl AE a,tsl rI b,tsl rI c] [] (λ_=>[]) (λ_=>tsl rI r)
 | 0,_,_,_,_,r,h=>by cases h
 | n+1,d,a,b,c,r,h=>gD (λd a b c r h=>Ua n d a b c r h) h
def LC (d:(List QK)) (b:(List Bool)) (a:Lz) (c:Lz):Option Lz:=Hf (a.length+2) d b a c
theorem gE {d:(List QK)} {a:(List Bool)} {b:Lz} {c:Lz} {r:Lz} (h:LC d a b c=some r):FnOk prog 114 [tsl BL d,tsl AE a,tsl rI b,tsl rI c] [] (λ_=>[]) (λ_=>tsl rI r):=Ua _ _ _ _ _ _ h
instance :Spc4 prog 114 (λ(d:(List QK)) (a:(List Bool)) (b:Lz) (c:Lz)=>LC d a b c) (λ(d:(List QK)) (a:(List Bool)) (b:Lz) (c:Lz)=>[tsl BL d,tsl AE a,tsl rI b,tsl rI c]) (λ(r:Lz)=>tsl rI r):=⟨λh=>gE h⟩
def H0 (h:Qm) (a:Int) (d:(List Bool)) (e:Int) (f:Q6):Option ((List Bool)×Q6):=(Qr (λ(s0:Int×List Bool×Q6×Q6)=>(opt ((decide (s0.1<=a))==true) (Ge s0.1 s0.2.2.2 s0.2.1 e s0.2.2.1) default).bind λc=>if (decide (s0.1<=a))&&c.1 then (Qr (λ(b:Int×Q6)=>if decide (b.1<(h.Xg.length:Int)) then (idx h.Xg b.1).bind λg=>(idx (s0.2.2.2).L g.a0).bind λj=>(if j then (idx (b.2).L g.a1).bind λm=>some ((b.2).setI g.a1 true) else some b.2).bind λk=>some (.inl (i64.wrap (b.1+1),k)) else some (.inr b.2)) (0,zz7)).bind λl=>some (.inl (i64.wrap (s0.1+1),bif ((decide (s0.1<=a))==true) then c.2.1 else s0.2.1,bif ((decide (s0.1<=a))==true) then c.2.2 else s0.2.2.1,l)) else some (.inr (bif ((decide (s0.1<=a))==true) then c.2.1 else s0.2.1,bif ((decide (s0.1<=a))==true) then c.2.2 else s0.2.2.1))) (0,d,f,Q6.mk true false false false false false false false false false false false)).bind λi=>some (i.1,i.2)
instance gF:SpcS prog 133 (∀{f b e n d i k j r},H0 n d i k j=some r->FnOk prog 133 [Qs.ty n,ti d,CZ 134 [tv f,tptr (rI.cs k),tv e]] [box (rVal.cs b) f,own AE 4 i b,box (Q8.cs j) e] (λ_=>[box (rVal.cs b) f,own AE 4 r.1 b,box (Q8.cs r.2) e]) (λ_=>ttup [])):=.mk λ{f b e n d i k j r} h=>by
 refine Fe func133 ntmps133 λC M D p=>?_
 apply Qa 26
 refine QU [vb 1 (Q8.cs zz7),vb 1 (Q8.cs (Q6.mk true false false false false false false false false false false false))] [2,3] 60 (λy=>?_) (λ_=>by refine' rx (.p (T:=Q8.ty (Q6.mk true false false false false false false false false false false false)) rfl (gG (R:=AE) (us:=[true]) (us2:=[false,false,false,false,false,false,false,false,false,false,false]) HM tok4 zv216 rfl (λF w=>(zc216 F w).drop (1 * AE.n)) (.cons .k<|.nil _))) 2 ?_;exact rnn)
 apply Qa 62
 have⟨E,h0,h⟩:=bs h
 refine tJp (λ_=>[]) 6 (λq=>[own AE 4 q.1 b,box (Q8.cs q.2) e]) 16514 (Ret prog f133 C [box (rVal.cs b) f,own AE 4 i b,box (Q8.cs j) e] D (λ_=>[box (rVal.cs b) f,own AE 4 r.1 b,box (Q8.cs r.2) e]) (λ_=>ttup []) .normal) (·=E) (λq s=>?_) λI=>?_
 ·subst s
  cases sj h
  exact Fo undef [0,1,2] p
 apply Qk
 refine AC h0 (λs0=>[(7,ti s0.1)]) 2081153 (λs0=>[own AE 4 s0.2.1 b,box (Q8.cs s0.2.2.1) e,box (Q8.cs s0.2.2.2) (y 1)]) 2113666 62 ?_
 intro s0 o K0 h t K
 refine Qf λ_ O=>?_
 have⟨l,P,h⟩:=bs h
 refine QU [v0 (box (rVal.cs b) f),v0 (own AE 4 (bif ((decide (s0.1<=d))==true) then l.2.1 else s0.2.1) b),v0 (box (Q8.cs (bif ((decide (s0.1<=d))==true) then l.2.2 else s0.2.2.1)) e)] [8,8,8] 32256 (λm1=>?_) (λ_=>by refine' pr 6 ?_;refine' rx (.gu [3] rfl rfl rfl bq2 (λ_=>Pu (R:=Q8) (u:=s0.2.2.2) OG z7 rfl)) 0 ?_;refine' rx (.ge (N:=λc _=>[box (rVal.cs b) f,own AE 4 (bif c then l.2.1 else s0.2.1) b,box (Q8.cs (bif c then l.2.2 else s0.2.2.1)) e]) [] [0,1,2] [4,5,6] rfl rfl rfl rfl rfl bq3 (λhc=>DK cal (eN.ok (Dm P hc)) (.cond z2 hc) (.cons (.of (.cond z1 hc))<|.cons (.of (.cond z0 hc))<|.nil)) rfl) 1 ?_;exact rnn)
 apply Qo h<;>intro _ h
 ·apply Qu
  apply O
  refine Qf λ_ Q=>?_
  apply Qk
  refine QU [vb 0 (Q8.cs zz7)] [1] 250 λm=>?_
  refine Qf λS U=>?_
  apply Qa 2044
  have⟨V,W,h⟩:=bs h
  refine tJp (λ_=>[]) 16261 (λv=>[box (Q8.cs v) (m 0)]) 278987138 S (·=V) (λv s=>?_) λX=>?_
  ·subst s
   apply U
   refine AB [v0 (box (Q8.cs v) (y 1))] [2] 248 λm3=>?_
   refine AA (λ_ _ H=>H.Xk [0,1,2,4] rfl) ?_
   apply Q
   apply QJ 248
   exact Qx K (sy h) 62
  apply Qk
  refine AC W (λg=>[(26,ti g.1)]) 34101805442 (λg=>[box (Q8.cs g.2) (m 0)]) 278987138 1022 ?_
  intro g o K2 h t Y
  apply Qa 2046
  refine Qf λ_ Z=>?_
  apply Qo h<;>intro _ h
  ·apply Qu
   apply Z
   refine Qf λK3 k6=>?_
   apply Qk
   have⟨z,_,_,A,p2,h4,h⟩:=bs3 h
   refine QU [vb 2 (Af.cs (AS.mk (0:Int) (0:Int))),vb 2 (Af.cs z)] [3,4] 16360 λm4=>?_
   apply tFz 5
   refine Qa 32752 ?_ (λ_=>by refine' pr 2 ?_;refine' rx (.u [0] rfl rfl (MV (L:=(s0.2.2.2).L) HM tok4 rfl z8 z0 rfl A)) 0 ?_;refine' rx (.u [0] rfl rfl (T6 (o:=0) (L:=(s0.2.2.2).L) tok4 rfl z0 rfl A)) 0 ?_;exact rnn)
   refine tJ0 [] 16260 [box (Q8.cs p2) (m 0)] 278987138 K3 ?_ λB=>?_
   ·apply k6
    apply QJ 2044
    exact Qx Y (sy h) 1306105879606625029
   replace h:=h4
   apply Qo h<;>intro _ h
   ·have⟨_,x,h⟩:=bs h
    refine AB [v0 (box (Q8.cs ((g.2).setI z.a1 true)) (m 0))] [4] 32704 (λm5=>?_) (λ_=>by refine' pr 2 ?_;refine' rx (.u [4] rfl rfl (MV (L:=(g.2).L) HM tok4 rfl z7 z0 rfl x)) 0 ?_;refine' rx (.e [] [4] [5] rfl rfl rfl rfl (Ub (a:=true) (Ts:=(Q8.cs g.2)) (o:=0) (L:=(g.2).L) tok4 rfl z0 .k x (leb rfl) (Q6.spl (pre:=take 0 (Q8.cs g.2)) (post:=drop 12 (Q8.cs g.2)) rfl x))) 0 ?_;exact rnn)
    cases sj h
    exact QN B 1022
   apply Qu
   cases sj h
   exact QN B 4088
  apply QQ
  exact Qx X (t _ (sy h)) 2016
 apply QQ
 refine AA (λ_ _ H=>(H.pick [5]).Xk [1,2,3] rfl) ?_
 exact Qx I (t _ (sy h)) 2
def Fv (c:Qm) (a:Int) (b:Int):Option (List Bool):=(Gh c).bind λd=>(if (((d !=0)||(decide (a<0)))||(decide (a>b)))||(decide (b>1000)) then some [] else (Qr (λ(s0:Int×Q6)=>if decide (s0.1<(c.Xe.length:Int)) then (Hx c s0.1).bind λe=>(idx (s0.2).L s0.1).bind λi=>some (.inl (i64.wrap (s0.1+1),(s0.2).setI s0.1 ((e.length:Int)==0))) else some (.inr s0.2)) (0,zz7)).bind λf=>(mk (c.Xe.length:Int) false).bind λg=>(H0 c b g a f).bind λh=>some h.1)
instance vK:Spc3 prog 76 Fv (λi b c=>[Qs.ty i,ti b,ti c]) (tsl AE):=.mk λ{i b c r} h=>by
 refine Fe func76 ntmps76 λz M A d=>?_
 apply Qa 70
 have⟨_,_,h⟩:=bs h
 refine tIfs h 983040 (λ_ h=>?_) λ_ h=>?_
 ·apply Qa 2
  exact tRE h d
 refine QU [vb 0 (Q8.cs zz7)] [1] 58 λe=>?_
 refine Qf λm n=>?_
 apply Qa 504
 have⟨p,h0,h⟩:=bs h
 refine tJp (λ_=>[]) 16260 (λj=>[box (Q8.cs j) (e 0)]) 1 m (·=p) (λj q=>?_) λs=>?_
 ·subst q
  apply n
  have⟨t,_,k,u,h⟩:=bs2 h
  refine QU [vo 3 AE 4 t,vb 4 (rVal.cs nilV),v2 3 4 (λv0 v1=>box (rVal.cs v0) v1)] [4,5,6] 1008 (λf=>?_) (λ_=>by refine' pr 4 ?_;refine' rx (.m [] [2] rfl rfl rfl (Uc R7)) 1 ?_;exact rnn)
  refine QU [v0 (box (rVal.cs (f 3)) (f 4)),v0 (own AE 4 k.1 (f 3)),v0 (box (Q8.cs k.2) (e 0))] [4,4,4] 96 (λB=>?_) (λ_=>by refine' pr 3 ?_;refine' rx (.e [] [2,1,0] [3,4,5] rfl rfl rfl rfl (QO cal (gF.ok u) (.cons (.of z2)<|.cons (.of z1)<|.cons (.of z0)<|.nil))) 0 ?_;exact rnn)
  apply tSl [0,1]
  apply Qa 14
  apply tSl [1]
  apply AG
  refine AA (by intro _ _ H;exact (H.Xn 1 rfl).pick [0]) ?_
  exact oRE h d
 apply Qk
 refine AC h0 (λs0=>[(29,ti s0.1)]) 266403970 (λs0=>[box (Q8.cs s0.2) (e 0)]) 1 126 ?_
 intro s0 o C h v w
 apply Qa 254
 refine Qf λ_ x=>?_
 apply Qo h<;>intro _ h
 ·apply Qu
  apply x
  refine Qf λ_ y=>?_
  apply Qk
  apply Qa 1012
  have⟨l,_,_,g,h⟩:=bs2 h
  refine AB [v0 (box (Q8.cs ((s0.2).setI s0.1 ((l.length:Int)==0))) (e 0))] [8] 32256 (λD=>?_) (λ_=>by refine' pr 6 ?_;refine' rx (.u [0] rfl rfl (MV (L:=(s0.2).L) HM tok4 rfl z9 z5 rfl g)) 0 ?_;refine' rx (.e [] [0] [1] rfl rfl rfl rfl (Ub (a:=((l.length:Int)==0)) (Ts:=(Q8.cs s0.2)) (o:=0) (L:=(s0.2).L) tok4 rfl z0 z1 g (leb rfl) (Q6.spl (pre:=take 0 (Q8.cs s0.2)) (post:=drop 12 (Q8.cs s0.2)) rfl g))) 0 ?_;exact rnn)
  apply y
  apply QJ 252
  exact Qx w (sy h) 415018090757
 apply QQ
 exact Qx s (v _ (sy h)) 240

/- The walk. No condition. -/
import Derived.Test.YtmhcoofnnmiejaaGreatDoorGenA
import Derived.Test.YtmhcoofnnmiejaaGreatDoorGenB
import Derived.Test.YtmhcoofnnmiejaaGreatDoorGenC
import Derived.Test.YtmhcoofnnmiejaaGreatDoorGenD
set_option linter.all false
open List Go.Proofs.Tryz Go.IntKind
namespace Go.Proofs.YtmhcoofnnmiejaaGreatDoor
noncomputable section
open Go.Sim
set_option maxRecDepth 100000
set_option maxHeartbeats 4000000
def QfW (a:(List Str)):Option (Bool):=(Qr (λ(s0:Int)=>((if (decide (s0<(a.length:Int)))=true then (idx a s0).bind λb=>(Qbw b).bind λc=>(if (!c)=true then (some (.inr (.inr false))) else (some (.inl (i64.wrap (s0+1))))) else (some (.inr (.inl ())))):Option ((Int)⊕((Unit)⊕(Bool))))) (0:Int)).bind λd=>(match d with | .inl _=>(some true) | .inr e=>(some e))
instance QEU:Spc1 prog 175 QfW (λc=>[tsl rS c]) tb:=.mk λ{c r} h=>by
 unfold QfW at h
 refine Fe func175 ntmps175 λs M i a=>?_
 refine Qa 4 ?_
 refine Qf λj k=>?_
 refine Qa 6 ?_
 have⟨d,h0,h⟩:=bs h
 have l:∀e,(.inl e)=d->To M i 16 [] [] j:=by
  intro e b;subst b;simp only at h;refine k <|Qa 2 ?_;exact Qp h (·▸Qn a)
 refine tJr (λf=>[(2,tb f)]) 1 (λ_=>[]) 0 (.inr ·=d) (λf b=>?_) λm=>?_
 ·subst b;simp only at h;obtain rfl:=sj h;exact Qn a
 refine Qk <|Qaf h0 (λs0=>[(3,ti s0)]) 385 (λs0=>[]) 0 6 ?_;clear h;intro s0 o t h g n;refine Qf λ_ p=>Qa 112 ?_;refine Qo h (λ_ h=>?_) λ_ h=>?_
 ·refine Qu <|p <|Qf λ_ q=>Qk ?_;have⟨_,_,_,_,h⟩:=bs2 h;refine Qa 832 ?_;refine Qo h (λ_ h=>?_) λ_ h=>?_
  ·refine Qa 2 ?_;refine QaA ?_;exact Qx m (g _ (sj h).symm) 2
  refine Qu <|q <|QJ 40 ?_;exact Qx n ((sj h).symm) 6
 refine QQ <|Qx l (g _ (sj h).symm) 0
def QgL (a:Qe):Option (Bool):=(Qr (λ(s0:Int×Int)=>((if (decide (s0.1<(a.Xf.length:Int)))=true then (idx a.Xf s0.1).bind λd=>(Qbe d 0 1048576).bind λe=>(if (!e)=true then (some (.inr (.inr false))) else (idx a.Xf s0.1).bind λf=>(some (.inl ((i64.wrap (s0.1+1)),(i64.wrap (s0.2+f)))))) else (some (.inr (.inl s0.2)))):Option ((Int×Int)⊕((Int)⊕(Bool))))) ((0:Int),(0:Int))).bind λg=>(match g with | .inl b=>(Qbe (a.Words.length:Int) 1 12).bind λc=>(opt (((c&&((a.Words.length:Int)==(a.Xf.length:Int)))&&(decide (b>0)))==true) (QfW a.Words) default).bind λh=>(some (((c&&((a.Words.length:Int)==(a.Xf.length:Int)))&&(decide (b>0)))&&h)) | .inr i=>(some i))
instance QCq:Spc1 prog 206 QgL (λc=>[Qd.ty c]) tb:=.mk λ{c r} h=>by
 unfold QgL at h
 refine Fe func206 ntmps206 λq M s a=>?_
 refine Qa 2 ?_
 refine Qa 6 ?_
 refine Qf λi j=>?_
 refine Qa 14 ?_
 have⟨d,h0,h⟩:=bs h
 refine tJp (λe=>[(3,ti e)]) 513 (λ_=>[]) 0 i (.inl ·=d) (λe b=>?_) λk=>?_
 ·subst b
  simp only at h
  refine j ?_
  have⟨_,_,_,_,h⟩:=bs2 h
  refine Qa 8388608 ?_
  exact Qp h (·▸Qn a)
 refine tJr (λf=>[(2,tb f)]) 1 (λ_=>[]) 0 (.inr ·=d) (λf b=>?_) λl=>?_
 ·subst b
  simp only at h
  obtain rfl:=sj h
  exact Qn a
 refine Qk ?_
 refine Qaf h0 (λs0=>[(4,ti s0.1),(3,ti s0.2)]) 65665 (λs0=>[]) 0 14 ?_
 clear h
 intro s0 o t h g m
 refine Qf λ_ n=>?_
 refine Qa 480 ?_
 refine Qo h (λ_ h=>?_) λ_ h=>?_
 ·refine Qu ?_
  refine n ?_
  refine Qf λ_ p=>?_
  refine Qk ?_
  have⟨_,_,_,_,h⟩:=bs2 h
  refine tIfs h 3712 (λ_ h=>?_) λ_ h=>?_
  ·refine Qa 2 ?_
   refine QaA ?_
   exact Qx l (g _ (sj h).symm) 2
  have⟨_,_,h⟩:=bs h
  refine QJ 3328 ?_
  refine p ?_
  refine QJ 56 ?_
  exact Qx m ((sj h).symm) 14
 refine QQ ?_
 exact Qx k (g _ (sj h).symm) 24
def QgN (a:Qm):Option (Bool):=(Qbw a.Xj).bind λb=>(opt ((!b)==false) (Qbe (a.Xe.length:Int) 1 12) default).bind λd=>(opt (((!b)||(!d))==false) (QfW a.Xe) default).bind λe=>(if ((((!b)||(!d))||(!e))||(decide ((a.Xg.length:Int)>32)))=true then (some false) else (Qr (λ(s0:Int)=>((if (decide (s0<(a.Xg.length:Int)))=true then (idx a.Xg s0).bind λf=>(Qbe f.a0 0 (i64.wrap ((a.Xe.length:Int) - 1))).bind λc=>(opt ((!c)==false) (idx a.Xg s0) default).bind λg=>(opt ((!c)==false) (Qbe g.a1 0 (i64.wrap ((a.Xe.length:Int) - 1))) default).bind λh=>(if ((!c)||(!h))=true then (some (.inr (.inr false))) else (some (.inl (i64.wrap (s0+1))))) else (some (.inr (.inl ())))):Option ((Int)⊕((Unit)⊕(Bool))))) (0:Int)).bind λi=>(match i with | .inl _=>(some true) | .inr j=>(some j)))
instance QCs:Spc1 prog 146 QgN (λc=>[Qs.ty c]) tb:=.mk λ{c r} h=>by
 unfold QgN at h
 refine Fe func146 ntmps146 λs M i a=>?_
 refine Qa 2 ?_
 have⟨_,_,_,_,_,_,h⟩:=bs3 h
 refine tIfs h 25165824 (λ_ h=>?_) λ_ h=>?_
 ·refine Qa 2 ?_
  exact Qp h (·▸Qn a)
 refine Qf λj k=>?_
 refine Qa 10 ?_
 have⟨d,h0,h⟩:=bs h
 have l:∀e,(.inl e)=d->To M i 60 [] [] j:=by
  intro e b;subst b;simp only at h;refine k <|Qa 2 ?_;exact Qp h (·▸Qn a)
 refine tJr (λf=>[(2,tb f)]) 1 (λ_=>[]) 0 (.inr ·=d) (λf b=>?_) λm=>?_
 ·subst b;simp only at h;obtain rfl:=sj h;exact Qn a
 refine Qk <|Qaf h0 (λs0=>[(3,ti s0)]) 385 (λs0=>[]) 0 6 ?_;clear h;intro s0 o t h g n;refine Qf λ_ p=>Qa 224 ?_;refine Qo h (λ_ h=>?_) λ_ h=>?_
 ·refine Qu <|p <|Qf λ_ q=>Qk ?_;have⟨_,_,_,_,_,_,_,_,h⟩:=bs4 h;refine Qa 872415232 ?_;refine Qo h (λ_ h=>?_) λ_ h=>?_
  ·refine Qa 2 ?_;refine QaA ?_;exact Qx m (g _ (sj h).symm) 2
  refine Qu <|q <|QJ 40 ?_;exact Qx n ((sj h).symm) 6
 refine QQ <|Qx l (g _ (sj h).symm) 0
def QgO (a:QL):Option (Bool):=(opt ((a.A !=([]:Str))==true) (Qbw a.A) default).bind λc=>(opt ((((a.A !=([]:Str))&&(!c))==false)&&((a.B !=([]:Str))==true)) (Qbw a.B) default).bind λe=>(if ((((a.A !=([]:Str))&&(!c))||((a.B !=([]:Str))&&(!e)))||((a.A==([]:Str))&&(a.B==([]:Str))))=true then (some false) else (Qbw a.Xj).bind λb=>(opt (b==true) (Qbw a.Xi) default).bind λd=>(opt ((b&&d)==true) (Qbe a.N (-1048576) 1048576) default).bind λf=>(some ((b&&d)&&f)))
instance QCt:Spc1 prog 147 QgO (λb=>[QV.ty b]) tb:=.mk λ{b r} h=>by
 unfold QgO at h
 refine Fe func147 ntmps147 λc M d a=>?_
 refine Qa 2 ?_
 have⟨_,_,_,_,h⟩:=bs2 h
 refine tIfs h 3221225472 (λ_ h=>?_) λ_ h=>?_
 ·refine Qa 2 ?_
  exact Qp h (·▸Qn a)
 have⟨_,_,_,_,_,_,h⟩:=bs3 h
 refine Qa 16384 ?_
 exact Qp h (·▸Qn a)
def Qfw (c:Qc) (a:Int) (b:Int):Option (Int):=(Qi1 c a b).bind λi=>(if (!i)=true then (some (-1:Int)) else (idx c.Xa a).bind λj=>(idx j.Xb b).bind λe=>(jn (λ(g:Qe)=>(if (g.Xi !=1)=true then (some (-1:Int)) else (QcH c g.Of).bind λh=>(if (decide (h>=a))=true then (some (-1:Int)) else (some h)))) λd=>(if ((e.Xi==7)||(e.Xi==8))=true then (idx c.Xa a).bind λk=>(Qbi k e.Up).bind λf=>(if ((decide (f<0))||(decide (f>=b)))=true then (some (-1:Int)) else (idx c.Xa a).bind λl=>(idx l.Xb f).bind λm=>(d m)) else (d e))))
instance Qud:Spc3 prog 32 Qfw (λf b a=>[Qb.ty f,ti b,ti a]) ti:=.mk λ{f b a r} h=>by
 unfold Qfw at h
 refine Fe func32 ntmps32 λo M p c=>?_
 refine Qa 50 ?_
 have⟨_,_,h⟩:=bs h
 refine tIfs h 480 (λ_ h=>?_) λ_ h=>?_
 ·refine Qa 2 ?_
  exact Qp h (·▸Qn c)
 have⟨_,_,k,_,h⟩:=bs2 h
 refine QU [v1 9 (λv0=>box (Qd.cs zz0) v0),v1 9 (λv0=>box (Qd.cs k) v0)] [10,11] 29696 λg=>?_
 refine Qf λl m=>?_
 refine Qa 7936 ?_
 obtain⟨e,d,h⟩:=QlT h
 refine tJp (λ_=>[]) 82435 (λi=>[box (Qd.cs i) (g 9)]) 1 l (e ·=some r) (λi h=>?_) λj=>?_
 ·rw[d] at h
  clear d
  refine m ?_
  refine tIfs h 120 (λ_ h=>?_) λ_ h=>?_
  ·refine Qa 2 ?_
   refine Q1 (λ_ _ H=>H.Xk [] rfl) ?_
   exact Qp h (·▸Qn c)
  have⟨_,_,h⟩:=bs h
  refine Qa 544 ?_
  refine Q1 (λ_ _ H=>H.Xk [] rfl) ?_
  refine tIfs h 24 (λ_ h=>?_) λ_ h=>?_
  ·refine Qa 2 ?_
   exact Qp h (·▸Qn c)
  refine Qa 4 ?_
  exact Qp h (·▸Qn c)
 clear d
 refine Qo h (λ_ h=>?_) λ_ h=>?_
 ·have⟨_,_,_,_,h⟩:=bs2 h
  refine Qa 31232 ?_
  refine tIfs h 3968 (λ_ h=>?_) λ_ h=>?_
  ·refine Qa 2 ?_
   refine Q1 (λ_ _ H=>H.Xk [] rfl) ?_
   exact Qp h (·▸Qn c)
  have⟨_,_,n,_,h⟩:=bs2 h
  refine QaG [v0 (box (Qd.cs n) (g 9))] [10] 28672 λq=>?_
  exact Qx j h 14
 refine Qu ?_
 exact Qx j h 28
def Qif (c:Qc) (a:Int) (b:Int):Option (Int×(List Int)):=(idx c.Xa a).bind λi=>(idx i.Xb b).bind λd=>(QcH c d.Of).bind λe=>(if ((d.Xi !=6)||(decide (e<=a)))=true then (some ((-1:Int),([]:List Int))) else (idx c.Xa e).bind λf=>(Qr (λ(s0:Int×List Int)=>(if (decide (s0.1<(f.Xb.length:Int)))=true then (idx f.Xb s0.1).bind λg=>(opt ((g.Xi==7)==true) (idx f.Xb s0.1) default).bind λh=>(opt (((g.Xi==7)&&(h.Of==d.Xj))==true) (Qfw c e s0.1) default).bind λj=>((if (((g.Xi==7)&&(h.Of==d.Xj))&&(j==a))=true then (rm (s0.2.length+[s0.1].length)).bind λ_=>(some (s0.2++[s0.1])) else (some s0.2))).bind λk=>(some (.inl ((i64.wrap (s0.1+1)),k))) else (some (.inr s0.2)))) ((0:Int),([]:List Int))).bind λl=>(some (e,l)))
instance QFO:Spc3 prog 149 Qif (λi b a=>[Qb.ty i,ti b,ti a]) (λr=>ttup [ti r.1,tsl rI r.2]):=.mk λ{i b a r} h=>by
 unfold Qif at h
 refine Fe func149 ntmps149 λC M l d=>?_
 refine Qa 98 ?_
 have⟨_,_,m,_,h⟩:=bs2 h
 refine QU [v1 9 (λv0=>box (Qd.cs zz0) v0),v1 9 (λv0=>box (Qd.cs m) v0)] [10,11] 7168 λD=>?_
 refine Q1 (λ_ _ H=>((H.Xl 0 rfl).add 0 rfl (λ_ _ _ h=>h.2)).pick [0,3,4]) ?_
 have⟨n,_,h⟩:=bs h
 refine Qa 480 ?_
 refine tIfs h 7936 (λ_ h=>?_) λ_ h=>?_
 ·refine Qa 6 ?_
  exact Qp h (·▸Qn d)
 refine Qa 122 ?_
 refine Q1 (λ_ _ H=>H.nil (rI) 3) ?_
 have⟨_,_,h⟩:=bs h
 refine Qa 8064 ?_
 refine Qf λp q=>?_
 refine Qa 254 ?_
 have⟨s,h0,h⟩:=bs h
 have t:∀f g,f=s->To M l 76 [(10,tv g),(9,ti n)] [own rI 3 f g] p:=by
  intro f g u;subst u;refine q <|Qa 60 ?_;refine QaA ?_;refine Qan (by intro _ _ H;exact (H.Xn 2 rfl).pick [0,2]) ?_;obtain rfl:=sj h;exact Qn d
 refine Qk <|QaU h0 (λs0 c=>[(12,ti s0.1),(10,tv c)]) 34101805441 (λs0 c=>[own rI 3 s0.2 c]) 1 (.slice none 0 0) 254 ?_;clear h;intro s0 c o E h v w;refine Qf λ_ x=>Qa 4080 ?_;refine Qo h (λ_ h=>?_) λ_ h=>?_
 ·refine Qu <|x <|Qf λy z=>Qk ?_;have⟨_,_,_,_,_,_,h⟩:=bs3 h;refine Qa 8539602944 ?_;have⟨A,j,h⟩:=bs h;refine tJ1 (λe=>[(10,tv e)]) 34103951745 (λe=>[own rI 3 A e]) 1 y (λe=>?_) λk=>?_
  ·refine z <|QJ 1016 ?_;exact Q7 w e ((sj h).symm) 61987669213955
  replace h:=j;clear j;refine Qo h (λ_ h=>?_) λ_ h=>?_
  ·have⟨_,_,h⟩:=bs h;refine QaG [v1 3 (λv0=>own rI 3 (s0.2++[s0.1]) v0)] [4] 8112 λB=>?_;obtain rfl:=sj h;exact QN (k (B 3)) 508
  refine Qu ?_;obtain rfl:=sj h;exact QN (k c) 70853022810633
 refine QQ <|Q7 t c (v _ (sj h).symm) 48
def Qht (c:Qc) (b:Int) (a:Int):Option (Int×Qe):=(Qfw c b a).bind λd=>(if (decide (d<0))=true then (some ((-1:Int),zz0)) else (idx c.Xa d).bind λf=>(idx c.Xa b).bind λg=>(idx g.Xb a).bind λh=>(Qbi f h.Of).bind λe=>(if (decide (e<0))=true then (some ((-1:Int),zz0)) else (idx c.Xa d).bind λi=>(idx i.Xb e).bind λj=>(idx c.Xa d).bind λk=>(idx k.Xb e).bind λl=>(some (j.Xi,l))))
instance QE0:Spc3 prog 179 Qht (λe b a=>[Qb.ty e,ti b,ti a]) (λr=>ttup [ti r.1,Qd.ty r.2]):=.mk λ{e b a r} h=>by
 unfold Qht at h
 refine Fe func179 ntmps179 λi M j c=>?_
 refine QU [v1 2 (λv0=>box (Qd.cs zz0) v0)] [3] 106 λd=>?_
 have⟨_,_,h⟩:=bs h
 refine Qa 992 ?_
 refine tIfs h 252 (λ_ h=>?_) λ_ h=>?_
 ·refine QU [v0 (box (Qd.cs zz0) (d 2))] [3] 68 λk=>?_
  exact Qp h (·▸Qn c)
 have⟨_,_,_,_,_,_,_,_,h⟩:=bs4 h
 refine Qa 3801088 ?_
 refine tIfs h 124 (λ_ h=>?_) λ_ h=>?_
 ·refine QU [v0 (box (Qd.cs zz0) (d 2))] [3] 132 λl=>?_
  exact Qp h (·▸Qn c)
 have⟨_,h0,f,g,h⟩:=bs2 h
 replace h:=bk h0 h
 replace h:=bk g h
 refine QU [v0 (box (Qd.cs f) (d 2))] [21] 34603008 λm=>?_
 exact Qp h (·▸Qn c)
def Qi2 (d:Qc) (a:Int) (b:Int) (e:Int):Option (Int):=(if (decide (e<0))=true then (some (12:Int)) else (Qht d a b).bind λc=>(idx d.Xa a).bind λf=>(idx f.Xb b).bind λg=>(if (g.Xi==7)=true then (opt ((c.1 !=6)==false) (QcH d (c.2).Of) default).bind λh=>(if ((c.1 !=6)||(h !=a))=true then (some (13:Int)) else (some (0:Int))) else (if (((((decide (c.1<0))||(c.1==0))||(c.1==1))||(c.1==6))||(c.1==7))=true then (some (13:Int)) else (some (0:Int)))))
instance QE1:Spc4 prog 150 Qi2 (λe b a d=>[Qb.ty e,ti b,ti a,ti d]) ti:=.mk λ{e b a d r} h=>by
 unfold Qi2 at h
 refine Fe func150 ntmps150 λg M i c=>?_
 refine Qa 114 ?_
 refine tIfs h 60 (λ_ h=>?_) λ_ h=>?_
 ·refine Qa 2 ?_
  exact Qp h (·▸Qn c)
 have⟨f,_,h⟩:=bs h
 refine QU [v1 7 (λv0=>box (Qd.cs zz0) v0),v1 7 (λv0=>box (Qd.cs f.2) v0)] [8,10] 15104 λj=>?_
 refine Q1 (λ_ _ H=>((H.Xl 0 rfl).add 0 rfl (λ_ _ _ h=>h.2)).pick [0,3,4,5,6]) ?_
 have⟨_,_,_,_,h⟩:=bs2 h
 refine tIfs h 63488 (λ_ h=>?_) λ_ h=>?_
 ·have⟨_,_,h⟩:=bs h
  refine tIfs h 1024 (λ_ h=>?_) λ_ h=>?_
  ·refine Qa 2 ?_
   exact Qp h (·▸Qn c)
  refine Qa 2 ?_
  exact Qp h (·▸Qn c)
 refine tIfs h 262144 (λ_ h=>?_) λ_ h=>?_
 ·refine Qa 2 ?_
  exact Qp h (·▸Qn c)
 refine Qa 2 ?_
 exact Qp h (·▸Qn c)
def Qhv (d:Qc) (f:Int):Option (Int):=(idx d.Xc f).bind λa=>(Qr (λ(s0:Int)=>((if (decide (s0<f))=true then (idx d.Xc s0).bind λi=>(if (i.Xj==a.Xj)=true then (some (.inr (.inr (7:Int)))) else (some (.inl (i64.wrap (s0+1))))) else (some (.inr (.inl ())))):Option ((Int)⊕((Unit)⊕(Int))))) (0:Int)).bind λj=>(match j with | .inl _=>(QcH d a.Xi).bind λe=>(if (decide (e<0))=true then (some (12:Int)) else (Qr (λ(c:Int×Bool)=>((if (decide (c.1<2))=true then (jn (λ(k:Bool)=>(some (.inl ((i64.wrap (c.1+1)),k)))) λb=>(idx [a.A,a.B] c.1).bind λl=>(if (l==([]:Str))=true then (b c.2) else (idx d.Xa e).bind λm=>(idx [a.A,a.B] c.1).bind λn=>(Qbi m n).bind λg=>(if (decide (g<0))=true then (some (.inr (.inr (12:Int)))) else (idx d.Xa e).bind λo=>(idx o.Xb g).bind λh=>(b (c.2||((h.Xi !=2)&&(h.Xi !=4))))))) else (some (.inr (.inl c.2)))):Option ((Int×Bool)⊕((Bool)⊕(Int))))) ((0:Int),false)).bind λp=>(match p with | .inl q=>(if q=true then (some (13:Int)) else (if (a.A==a.B)=true then (some (1:Int)) else (some (0:Int)))) | .inr r=>(some r))) | .inr s=>(some s))
instance QE3:Spc2 prog 128 Qhv (λg i=>[Qb.ty g,ti i]) ti:=.mk λ{g i r} h=>by
 unfold Qhv at h
 refine Fe func128 ntmps128 λN M O b=>?_
 refine Qa 18 ?_
 have⟨s,_,h⟩:=bs h
 refine QU [v1 5 (λv0=>box (QV.cs zz3) v0),v1 5 (λv0=>box (QV.cs s) v0)] [6,7] 448 λP=>?_
 refine Q1 (λ_ _ H=>((H.Xl 0 rfl).add 0 rfl (λ_ _ _ h=>h.2)).pick [0,3,4]) ?_
 refine Qf λt u=>?_
 refine Qa 30 ?_
 have⟨j,h0,h⟩:=bs h
 refine tJp (λ_=>[]) 515 (λ_=>[]) 0 t (.inl ·=j) (λQ c=>?_) λv=>?_
 ·subst c
  simp only at h
  refine u ?_
  have⟨_,_,h⟩:=bs h
  refine Qa 224 ?_
  refine tIfs h 60 (λ_ h=>?_) λ_ h=>?_
  ·refine Qa 2 ?_
   exact Qp h (·▸Qn b)
  refine Qa 1856 ?_
  refine Qa 62 ?_
  refine Qf λw x=>?_
  refine Qa 126 ?_
  have⟨k,y,h⟩:=bs h
  refine tJp (λl=>[(9,tb l)]) 769 (λ_=>[]) 0 w (.inl ·=k) (λl c=>?_) λz=>?_
  ·subst c
   simp only at h
   refine x ?_
   refine tIfs h 10 (λ_ h=>?_) λ_ h=>?_
   ·refine Qa 2 ?_
    exact Qp h (·▸Qn b)
   refine tIfs h 32 (λ_ h=>?_) λ_ h=>?_
   ·refine Qa 2 ?_
    exact Qp h (·▸Qn b)
   refine Qa 2 ?_
   exact Qp h (·▸Qn b)
  refine tJr (λm=>[(4,ti m)]) 1 (λ_=>[]) 0 (.inr ·=k) (λm c=>?_) λA=>?_
  ·subst c
   simp only at h
   obtain rfl:=sj h
   exact Qn b
  refine Qk ?_
  refine Qaf y (λs0=>[(10,ti s0.1),(9,tb s0.2)]) 266403969 (λs0=>[]) 0 126 ?_
  clear h
  intro s0 o R h d B
  refine Qf λ_ C=>?_
  refine Qa 508 ?_
  refine Qo h (λ_ h=>?_) λ_ h=>?_
  ·refine Qu ?_
   refine C ?_
   refine Qf λD E=>?_
   obtain⟨e,a,h⟩:=QlT h
   refine tJp (λn=>[(9,tb n)]) 266420355 (λ_=>[]) 0 D (e ·=some o) (λn h=>?_) λp=>?_
   ·rw[a] at h
    clear a
    refine E ?_
    refine QJ 504 ?_
    exact Qx B ((sj h).symm) 126
   clear a
   refine Qk ?_
   have⟨_,_,h⟩:=bs h
   refine tIfs h 8096 (λ_ h=>?_) λ_ h=>?_
   ·refine QQ ?_
    exact Qx p h 252
   have⟨_,_,_,_,_,_,h⟩:=bs3 h
   refine Qa 518144 ?_
   refine tIfs h 1020 (λ_ h=>?_) λ_ h=>?_
   ·refine Qa 2 ?_
    refine QaA ?_
    exact Qx A (d _ (sj h).symm) 2
   have⟨_,_,_,_,h⟩:=bs2 h
   refine Qa 1034240 ?_
   refine QJ 128000 ?_
   exact Qx p h 415018090757
  refine QQ ?_
  exact Qx z (d _ (sj h).symm) 72
 refine tJr (λq=>[(4,ti q)]) 1 (λ_=>[]) 0 (.inr ·=j) (λq c=>?_) λF=>?_
 ·subst c
  simp only at h
  obtain rfl:=sj h
  exact Qn b
 refine Qk ?_
 refine Qaf h0 (λf=>[(6,ti f)]) 2081153 (λf=>[]) 0 30 ?_
 clear h
 intro f o S h d I
 refine Qf λ_ K=>?_
 refine Qa 248 ?_
 refine Qo h (λ_ h=>?_) λ_ h=>?_
 ·refine Qu ?_
  refine K ?_
  refine Qf λ_ L=>?_
  refine Qk ?_
  have⟨_,_,h⟩:=bs h
  refine Qa 31232 ?_
  refine Qo h (λ_ h=>?_) λ_ h=>?_
  ·refine Qa 2 ?_
   refine QaA ?_
   exact Qx F (d _ (sj h).symm) 2
  refine Qu ?_
  refine L ?_
  refine QJ 232 ?_
  exact Qx I ((sj h).symm) 30
 refine QQ ?_
 exact Qx v (d _ (sj h).symm) 24
def Qf0 (d:Qc) (a:(List Int)):Option (Bool):=(Qr (λ(s0:Int)=>((if (decide (s0<(a.length:Int)))=true then (Qr (λ(c:Int)=>((idx d.Xa s0).bind λf=>(if (decide (c<(f.Xb.length:Int)))=true then (Qfw d s0 c).bind λb=>(opt ((decide (b>=0))==true) (idx a s0) default).bind λe=>(opt (((decide (b>=0))&&(decide (e>0)))==true) (idx a b) default).bind λg=>(if (((decide (b>=0))&&(decide (e>0)))&&(g==0))=true then (some (.inr (.inr false))) else (some (.inl (i64.wrap (c+1))))) else (some (.inr (.inl ())))):Option ((Int)⊕((Unit)⊕(Bool))))) (0:Int)).bind λh=>(match h with | .inl _=>(some (.inl (i64.wrap (s0+1)))) | .inr i=>(some (.inr (.inr i)))) else (some (.inr (.inl ())))):Option ((Int)⊕((Unit)⊕(Bool))))) (0:Int)).bind λj=>(match j with | .inl _=>(some true) | .inr k=>(some k))
instance QBc:Spc2 prog 12 Qf0 (λf a=>[Qb.ty f,tsl rI a]) tb:=.mk λ{f a r} h=>by
 unfold Qf0 at h
 refine Fe func12 ntmps12 λD M m c=>?_
 refine Qa 18 ?_
 refine Qf λn p=>?_
 refine Qa 14 ?_
 have⟨g,h0,h⟩:=bs h
 have q:∀i,(.inl i)=g->To M m 45 [] [] n:=by
  intro i b;subst b;simp only at h;refine p <|Qa 2 ?_;exact Qp h (·▸Qn c)
 refine tJr (λj=>[(4,tb j)]) 1 (λ_=>[]) 0 (.inr ·=g) (λj b=>?_) λs=>?_
 ·subst b;simp only at h;obtain rfl:=sj h;exact Qn c
 refine Qk <|Qaf h0 (λs0=>[(5,ti s0)]) 65921 (λs0=>[]) 0 14 ?_;clear h;intro s0 o E h d t;refine Qf λ_ u=>Qa 240 ?_;refine Qo h (λ_ h=>?_) λ_ h=>?_
 ·refine Qu <|u <|Qf λv w=>Qk <|Qa 58 ?_;have⟨k,x,h⟩:=bs h;refine tJp (λ_=>[]) 16259 (λ_=>[]) 0 v (.inl ·=k) (λF b=>?_) λy=>?_
  ·subst b;simp only at h;refine w <|QJ 56 ?_;exact Qx t ((sj h).symm) 14
  refine tJr (λl=>[(4,tb l)]) 1 (λ_=>[]) 0 (.inr ·=k) (λl b=>?_) λz=>?_
  ·subst b;simp only at h;exact Qx s (d _ (sj h).symm) 2
  refine Qk <|Qaf x (λe=>[(6,ti e)]) 2081153 (λe=>[]) 0 30 ?_;clear h;intro e o H h d A;refine Qf λ_ B=>?_;have⟨_,_,h⟩:=bs h;refine Qa 15872 ?_;refine Qo h (λ_ h=>?_) λ_ h=>?_
  ·refine Qu <|B <|Qf λ_ C=>Qk ?_;have⟨_,_,h⟩:=bs h;refine Qa 1952 ?_;have⟨_,_,_,_,h⟩:=bs2 h;refine Qa 3997696 ?_;refine Qo h (λ_ h=>?_) λ_ h=>?_
   ·refine Qa 2 ?_;refine QaA ?_;exact Qx z (d _ (sj h).symm) 2
   refine Qu <|C <|QJ 232 ?_;exact Qx A ((sj h).symm) 30
  refine QQ <|Qx y (d _ (sj h).symm) 56
 refine QQ <|Qx q (d _ (sj h).symm) 0
def QdO (b:(List Str)) (a:(List Int)):Option (Bool):=(Qr (λ(s0:Int×Int)=>((if (decide (s0.1<(a.length:Int)))=true then (idx a s0.1).bind λc=>(QbJ c 0 1048576).bind λf=>(if (!f)=true then (some (.inr (.inr false))) else (some (.inl ((i64.wrap (s0.1+1)),(i64.wrap (s0.2+c)))))) else (some (.inr (.inl s0.2)))):Option ((Int×Int)⊕((Int)⊕(Bool))))) ((0:Int),(0:Int))).bind λg=>(match g with | .inl d=>(QbJ (b.length:Int) 1 12).bind λe=>(opt (((e&&((b.length:Int)==(a.length:Int)))&&(decide (d>0)))==true) (Qdh b (λx0=>QaI x0)) default).bind λh=>(some (((e&&((b.length:Int)==(a.length:Int)))&&(decide (d>0)))&&h)) | .inr i=>(some i))
instance QBf:Spc2 prog 218 QdO (λb a=>[tsl rS b,tsl rI a]) tb:=.mk λ{b a r} h=>by
 unfold QdO at h
 refine Fe func218 ntmps218 λs M t c=>?_
 refine Qa 12 ?_
 refine Qa 14 ?_
 refine Qf λj k=>?_
 refine Qa 126 ?_
 have⟨e,h0,h⟩:=bs h
 refine tJp (λf=>[(5,ti f)]) 115457 (λ_=>[]) 0 j (.inl ·=e) (λf d=>?_) λl=>?_
 ·subst d
  simp only at h
  refine k ?_
  have⟨_,_,_,_,h⟩:=bs2 h
  refine Qa 524288 ?_
  exact Qp h (·▸Qn c)
 refine tJr (λg=>[(4,tb g)]) 1 (λ_=>[]) 0 (.inr ·=e) (λg d=>?_) λm=>?_
 ·subst d
  simp only at h
  obtain rfl:=sj h
  exact Qn c
 refine Qk ?_
 refine Qaf h0 (λs0=>[(10,ti s0.1),(5,ti s0.2)]) 242130895234 (λs0=>[]) 0 126 ?_
 clear h
 intro s0 o u h i n
 refine Qa 254 ?_
 refine Qf λ_ p=>?_
 refine Qo h (λ_ h=>?_) λ_ h=>?_
 ·refine Qu ?_
  refine p ?_
  refine Qf λ_ q=>?_
  refine Qk ?_
  have⟨_,_,h⟩:=bs h
  refine Qa 2024 ?_
  have⟨_,_,h⟩:=bs h
  refine tIfs h 2040 (λ_ h=>?_) λ_ h=>?_
  ·refine Qa 2 ?_
   refine QaA ?_
   exact Qx m (i _ (sj h).symm) 2
  refine QJ 3984 ?_
  refine q ?_
  refine QJ 252 ?_
  exact Qx n ((sj h).symm) 415009637383
 refine QQ ?_
 exact Qx l (i _ (sj h).symm) 224
def Qi7 (c:(List (List (List Int)))) (d:(List (List (List Int)))):Option (Int):=(Qr (λ(s0:Int×Int)=>(if (decide (s0.1<(c.length:Int)))=true then (idx c s0.1).bind λf=>(idx d s0.1).bind λg=>(Qr (λ(b:Int×Int)=>(if (decide (b.1<(imin (f.length:Int) (g.length:Int))))=true then (idx c s0.1).bind λh=>(idx h b.1).bind λe=>(Qr (λ(a:Int×Int)=>(if (decide (a.1<(e.length:Int)))=true then (idx e a.1).bind λi=>(idx d s0.1).bind λj=>(idx j b.1).bind λk=>(idx k a.1).bind λl=>((if (i !=l)=true then (some (i64.wrap (a.2+1))) else (some a.2))).bind λm=>(some (.inl ((i64.wrap (a.1+1)),m))) else (some (.inr a.2)))) ((0:Int),b.2)).bind λn=>(some (.inl ((i64.wrap (b.1+1)),n))) else (some (.inr b.2)))) ((0:Int),s0.2)).bind λo=>(some (.inl ((i64.wrap (s0.1+1)),o))) else (some (.inr s0.2)))) ((0:Int),(0:Int))).bind λp=>(some p)
instance Qti:Spc2 prog 23 (λ(c:(List (List (List Int)))) (d:(List (List (List Int))))=>Qi7 c d) (λ(c:(List (List (List Int)))) (d:(List (List (List Int))))=>[tsl (rSl (rSl rI)) c,tsl (rSl (rSl rI)) d]) ti:=.mk λ{c d r} h=>by
 unfold Qi7 at h
 refine Fe func23 ntmps23 λQ M n g=>?_
 refine Qa 12 ?_
 refine Qa 14 ?_
 refine Qf λp q=>?_
 refine Qa 124 ?_
 have⟨s,h0,h⟩:=bs h
 have t:∀i,i=s->To M n 60 [(5,ti i)] [] p:=by
  intro i a;subst a;refine q <|Qa 4 ?_;exact Qp h (·▸Qn g)
 refine Qk <|Qaf h0 (λs0=>[(12,ti s0.1),(5,ti s0.2)]) 1621115010 (λs0=>[]) 0 62 ?_;clear h;intro s0 o R h b u;refine Qa 126 ?_;refine Qf λ_ v=>Qo h (λ_ h=>?_) λ_ h=>?_
 ·refine Qu <|v <|Qf λw x=>Qk <|Qa 500 ?_;have⟨_,_,_,_,h⟩:=bs2 h;refine Qa 522240 ?_;have⟨y,z,h⟩:=bs h;refine tJp (λj=>[(5,ti j)]) 2432713477 (λ_=>[]) 0 w (·=y) (λj a=>?_) λA=>?_
  ·subst a;refine x <|QJ 124 ?_;exact Qx u ((sj h).symm) 2701230341
  refine Qk <|Qaf z (λe=>[(26,ti e.1),(5,ti e.2)]) 5101769933783170 (λe=>[]) 0 510 ?_;clear h;intro e o S h b B;refine Qa 1022 ?_;refine Qf λ_ C=>Qo h (λ_ h=>?_) λ_ h=>?_
  ·refine Qu <|C <|Qf λD E=>Qk <|Qa 4084 ?_;have⟨_,_,_,_,h⟩:=bs2 h;refine Qa 524160 ?_;have⟨F,H,h⟩:=bs h;refine tJp (λk=>[(5,ti k)]) 7371163015709574 (λ_=>[]) 0 D (·=F) (λk a=>?_) λI=>?_
   ·subst a;refine E <|QJ 1020 ?_;exact Qx B ((sj h).symm) 9069186923987205
   refine Qk <|Qaf H (λf=>[(37,ti f.1),(5,ti f.2)]) 1978681505372334670758274 (λf=>[]) 0 8190 ?_;clear h;intro f o T h b K;refine Qa 16382 ?_;refine Qf λ_ L=>Qo h (λ_ h=>?_) λ_ h=>?_
   ·refine Qu <|L <|Qf λN O=>Qk ?_;have⟨_,_,h⟩:=bs h;refine Qa 524208 ?_;have⟨_,_,_,_,_,_,h⟩:=bs3 h;refine Qa 134189056 ?_;have⟨P,l,h⟩:=bs h;refine tJ0 [(5,ti P)] 2131070058165249276707201 [] 0 N ?_ λm=>?_
    ·refine O <|QJ 16380 ?_;exact Qx K ((sj h).symm) 3652788819343650934785031
    replace h:=l;clear l;refine Qo h (λ_ h=>?_) λ_ h=>?_
    ·refine QJ 65512 ?_;obtain rfl:=sj h;exact QN m 8190
    refine Qu ?_;obtain rfl:=sj h;exact QN m 3957528886191379391283735
   refine QQ <|Qx I (b _ (sj h).symm) 16320
  refine QQ <|Qx A (b _ (sj h).symm) 992
 refine QQ <|Qx t (b _ (sj h).symm) 16

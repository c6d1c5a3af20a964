/- The walk. No condition. -/
import Derived.Test.YtmhcoofnnmiejaaGreatDoorGenE
import Derived.Test.YtmhcoofnnmiejaaGreatDoorGenH
set_option linter.all false
open List Go.Proofs.Tryz Go.IntKind
namespace Go.Proofs.YtmhcoofnnmiejaaGreatDoor
noncomputable section
open Go.Sim
set_option maxRecDepth 100000
set_option maxHeartbeats 4000000
def Qdf (t:QR):Option ((List Qe)×QR):=(QS t 6).bind λa=>(if (a.1==0)=true then (QS a.2 11).bind λk=>(QS k.2 20).bind λo=>(some ([(Qe.mk ([115,105,122,101]:Str) ([]:Str) ([]:Str) 2 (i64.wrap (k.1 - 5)) (i64.wrap ((i64.wrap (k.1 - 5))+o.1)) ([]:(List Str)) ([]:(List Int)))],o.2)) else (if (a.1==1)=true then (QS a.2 3).bind λp=>(sub [([114,101,100]:Str),([103,114,101,101,110]:Str),([98,108,117,101]:Str)] 0 (i64.wrap ((1:Int)+p.1))).bind λl=>(Qr (λ(s0:Int×List Int×QR)=>(if (decide (s0.1<(l.length:Int)))=true then (QS s0.2.2 5).bind λm=>(rm (s0.2.1.length+[m.1].length)).bind λ_=>(some (.inl ((i64.wrap (s0.1+1)),(s0.2.1++[m.1]),m.2))) else (some (.inr (s0.2.1,s0.2.2))))) ((0:Int),([]:List Int),p.2)).bind λq=>(QS q.2 (l.length:Int)).bind λr=>(QS r.2 3).bind λs=>(setAt q.1 r.1 (i64.wrap ((1:Int)+s.1))).bind λu=>(some ([(Qe.mk ([116,97,103]:Str) ([]:Str) ([]:Str) 3 0 0 l u)],s.2)) else (if (a.1==2)=true then (QS a.2 400).bind λn=>(QS n.2 60).bind λc=>(QS c.2 3).bind λd=>(QS d.2 30).bind λe=>(some ([(Qe.mk ([98,111,114,110]:Str) ([]:Str) ([]:Str) 4 (i64.wrap (n.1 - 200)) (i64.wrap ((i64.wrap (n.1 - 200))+c.1)) ([]:(List Str)) ([]:(List Int))),(Qe.mk ([108,101,102,116]:Str) ([98,111,114,110]:Str) ([]:Str) 4 d.1 (i64.wrap ((3:Int)+e.1)) ([]:(List Str)) ([]:(List Int)))],e.2)) else (if (a.1==3)=true then (QS a.2 3).bind λb=>(QS b.2 4).bind λf=>(some ([(Qe.mk ([115,116,97,116,101]:Str) ([108,105,102,101]:Str) ([]:Str) 5 b.1 (i64.wrap (b.1+f.1)) ([]:(List Str)) ([]:(List Int)))],f.2)) else (if (a.1==4)=true then (QS a.2 5).bind λg=>(QS g.2 10).bind λh=>(QS h.2 5).bind λi=>(QS i.2 10).bind λj=>(some ([(Qe.mk ([108,111,119]:Str) ([]:Str) ([]:Str) 2 g.1 (i64.wrap ((5:Int)+h.1)) ([]:(List Str)) ([]:(List Int))),(Qe.mk ([104,105,103,104]:Str) ([]:Str) ([]:Str) 2 i.1 (i64.wrap ((10:Int)+j.1)) ([]:(List Str)) ([]:(List Int)))],j.2)) else (some (([]:List Qe),a.2)))))))
instance Qwr:SpcS prog 60 (∀{b p r},Qdf p=some r->FnOk prog 60 [tv b] [box (QC.cs p) b] (λ_=>[box (QC.cs r.2) b]) (λ_=>tsl Qd r.1)):=.mk λ{b p r} h=>by
 unfold Qdf at h
 refine Fe func60 ntmps60 λM0 M w0 c=>?_
 refine Qa 4 ?_
 refine Qf λ_ A=>?_
 have⟨B,_,h⟩:=bs h
 refine QU [v0 (box (QC.cs B.2) b)] [2] 12 λm0=>?_
 refine Qk ?_
 refine Qa 28 ?_
 refine Qo h (λ_ h=>?_) λ_ h=>?_
 ·have⟨C,_,h⟩:=bs h
  refine QU [v0 (box (QC.cs C.2) b)] [2] 144 λm1=>?_
  have⟨D,_,h⟩:=bs h
  refine QU [v0 (box (QC.cs D.2) b)] [4] 1280 λm2=>?_
  exact Qp h (·▸QaQ undef [0] c)
 refine Qa 52 ?_
 refine Qo h (λ_ h=>?_) λ_ h=>?_
 ·have⟨E,_,e,_,h⟩:=bs2 h
  refine QU [v0 (box (QC.cs E.2) b)] [3] 576 λm3=>?_
  refine QU [v1 2 (λv0=>box (Qd.cs zz0) v0),v1 2 (λv0=>box ([tv (.string (sB ([116,97,103]:Str))),tv (.string (sB ([]:Str))),tv (.string (sB ([]:Str))),ti (3:Int),ti (0:Int),ti (0:Int),tsl rS e,tvs nilV]) v0)] [3,4] 56 (λl=>?_) (λ_=>by refine' pr 1 ?_;refine' rx (.p (T:=tagg ([tv (.string (sB ([116,97,103]:Str))),tv (.string (sB ([]:Str))),tv (.string (sB ([]:Str))),ti (3:Int),ti (0:Int),ti (0:Int),tsl rS e,tvs nilV])) rfl (Qby ud66 pl66 zv66 QAE.1 (.cons (R:=rS) (u:=([116,97,103]:Str)) rfl .k (leb rfl)<|.cons (R:=rI) (u:=(3:Int)) rfl .k (leb rfl)<|.cons (R:=(rSl rS)) (u:=e) rfl z0 (leb rfl)<|.nil _))) 1 ?_;refine' rx (.e [] [1] [2] rfl rfl rfl rfl (Qay (R:=(rAgg ([tv (.string (sB ([116,97,103]:Str))),tv (.string (sB ([]:Str))),tv (.string (sB ([]:Str))),ti (3:Int),ti (0:Int),ti (0:Int),tsl rS e,tvs nilV]) (Qt (QZ rfl) (Qt (QZ rfl) (Qt (QZ rfl) (Qt (QZ rfl) (Qt (QZ rfl) (Qt (QZ rfl) (Qt Qbj (Qt Qb9 Qak)))))))))) (a:=()) (tokA QaY (Qt (QZ rfl) (Qt (QZ rfl) (Qt (QZ rfl) (Qt (QZ rfl) (Qt (QZ rfl) (Qt (QZ rfl) (Qt Qbj (Qt Qb9 Qak)))))))) rfl rfl) z0 z1 (leb rfl))) 0 ?_;exact rnn)
  refine Q1 (λ_ _ H=>H.nil (rI) 3) ?_
  refine Qf λF I=>?_
  refine Qa 30 ?_
  have⟨K,h0,h⟩:=bs h
  refine tJq (λ_ _=>[]) 16259 (λq m=>[own rI 3 q.1 m,box (QC.cs q.2) b,box ([tv (.string (sB ([116,97,103]:Str))),tv (.string (sB ([]:Str))),tv (.string (sB ([]:Str))),ti (3:Int),ti (0:Int),ti (0:Int),tsl rS e,tvs m]) (l 2)]) 16513 F (·=K) (λq m L=>?_) λN=>?_
  ·subst L
   refine I ?_
   have⟨O,_,x,_,y,_,h⟩:=bs3 h
   refine QU [v0 (box (QC.cs O.2) b),v0 (box (QC.cs x.2) b),v0 (own rI 3 y m)] [6,8,11] 10244 λm5=>?_
   refine Q1 (As'':=[box (Qd.cs (Qe.mk ([116,97,103]:Str) ([]:Str) ([]:Str) (3:Int) (0:Int) (0:Int) e y)) (l 2),box (QC.cs x.2) b]) (λ_ _ H=>((H.pick [1,2]).Xk [2,0,1] rfl).Xm 7 rfl) ?_
   refine Qa 40 ?_
   refine Q1 (λ_ _ H=>H.Xk [1] rfl) ?_
   exact Qp h (·▸QaQ undef [0] c)
  refine Qk ?_
  refine QaU h0 (λs0 j=>[(6,ti s0.1)]) 2081153 (λs0 j=>[own rI 3 s0.2.1 j,box (QC.cs s0.2.2) b,box ([tv (.string (sB ([116,97,103]:Str))),tv (.string (sB ([]:Str))),tv (.string (sB ([]:Str))),ti (3:Int),ti (0:Int),ti (0:Int),tsl rS e,tvs j]) (l 2)]) 16513 nilV 30 ?_
  clear h
  intro s0 j o K1 h P Q
  refine Qf λ_ S=>?_
  refine Qa 496 ?_
  refine Qo h (λ_ h=>?_) λ_ h=>?_
  ·refine Qu ?_
   refine S ?_
   refine Qf λ_ U=>?_
   refine Qk ?_
   have⟨z,_,_,_,h⟩:=bs2 h
   refine QaG [v0 (box (QC.cs z.2) b),v1 5 (λv0=>own rI 3 (s0.2.1++[z.1]) v0),v1 5 (λv0=>box ([tv (.string (sB ([116,97,103]:Str))),tv (.string (sB ([]:Str))),tv (.string (sB ([]:Str))),ti (3:Int),ti (0:Int),ti (0:Int),tsl rS e,tvs v0]) (l 2))] [4,6,8] 7744 λV=>?_
   refine U ?_
   refine QJ 248 ?_
   refine Qan (λ_ _ H=>(H.pick [0,2,3,4]).Xk [1,0,2] rfl) ?_
   exact Q7 Q (V 5) ((sj h).symm) 30
  refine QQ ?_
  exact Q7 N j (P _ (sj h).symm) 56
 refine Qa 52 ?_
 refine Qo h (λ_ h=>?_) λ_ h=>?_
 ·have⟨n,_,h⟩:=bs h
  refine QU [v0 (box (QC.cs n.2) b),v1 4 (λv0=>box (Qd.cs zz0) v0),v1 4 (λv0=>box (Qd.cs (Qe.mk ([98,111,114,110]:Str) ([]:Str) ([]:Str) (4:Int) (i64.wrap (n.1 - 200)) (0:Int) ([]:(List Str)) ([]:(List Int)))) v0)] [2,5,6] 288 λW=>?_
  have⟨k,_,h⟩:=bs h
  refine QU [v0 (box (QC.cs k.2) b),v0 (box (Qd.cs (Qe.mk ([98,111,114,110]:Str) ([]:Str) ([]:Str) (4:Int) (i64.wrap (n.1 - 200)) (i64.wrap ((i64.wrap (n.1 - 200))+k.1)) ([]:(List Str)) ([]:(List Int)))) (W 4))] [4,7] 384 λm8=>?_
  have⟨f,_,g,_,h⟩:=bs2 h
  refine QU [v0 (box (QC.cs f.2) b),v0 (box (QC.cs g.2) b)] [3,5] 2560 (λm9=>?_) (λ_=>by refine' pr 6 ?_;refine' rx (.p (T:=Qd.ty (Qe.mk ([108,101,102,116]:Str) ([98,111,114,110]:Str) ([]:Str) (4:Int) f.1 (i64.wrap ((3:Int)+g.1)) ([]:(List Str)) ([]:(List Int)))) rfl (Qby ud66 pl66 zv66 zc66 (.cons (R:=rS) (u:=([108,101,102,116]:Str)) rfl .k (leb rfl)<|.cons (R:=rI) (u:=(4:Int)) rfl .k (leb rfl)<|.cons (R:=rS) (u:=([98,111,114,110]:Str)) rfl .k (leb rfl)<|.cons (R:=rI) (u:=f.1) rfl z3 (leb rfl)<|.cons (R:=rI) (u:=(i64.wrap ((3:Int)+g.1))) rfl z0 (leb rfl)<|.nil _))) 2 ?_;exact rnn)
  refine Q1 (λ_ _ H=>H.Xk [1] rfl) ?_
  exact Qp h (·▸QaQ undef [0] c)
 refine Qa 52 ?_
 refine Qo h (λ_ h=>?_) λ_ h=>?_
 ·have⟨d,_,h⟩:=bs h
  refine QU [v0 (box (QC.cs d.2) b)] [2] 72 λX=>?_
  have⟨i,_,h⟩:=bs h
  refine QU [v0 (box (QC.cs i.2) b)] [4] 1280 (λY=>?_) (λ_=>by refine' pr 5 ?_;refine' rx (.p (T:=Qd.ty (Qe.mk ([115,116,97,116,101]:Str) ([108,105,102,101]:Str) ([]:Str) (5:Int) d.1 (i64.wrap (d.1+i.1)) ([]:(List Str)) ([]:(List Int)))) rfl (Qby ud66 pl66 zv66 zc66 (.cons (R:=rS) (u:=([115,116,97,116,101]:Str)) rfl .k (leb rfl)<|.cons (R:=rI) (u:=(5:Int)) rfl .k (leb rfl)<|.cons (R:=rS) (u:=([108,105,102,101]:Str)) rfl .k (leb rfl)<|.cons (R:=rI) (u:=d.1) rfl z4 (leb rfl)<|.cons (R:=rI) (u:=(i64.wrap (d.1+i.1))) rfl z0 (leb rfl)<|.nil _))) 2 ?_;exact rnn)
  exact Qp h (·▸QaQ undef [0] c)
 refine Qa 36 ?_
 refine Qo h (λ_ h=>?_) λ_ h=>?_
 ·have⟨s,_,t,_,v,_,w,_,h⟩:=bs4 h
  refine QU [v0 (box (QC.cs s.2) b),v0 (box (QC.cs t.2) b),v0 (box (QC.cs v.2) b),v0 (box (QC.cs w.2) b)] [2,4,8,10] 81920 λZ=>?_
  exact Qp h (·▸QaQ undef [0] c)
 refine Qu ?_
 refine A ?_
 refine Qa 10 ?_
 exact Qp h (·▸QaQ undef [0] c)
def QcO (e:Qw):Option ((List Int)×Qw):=(Qr (λ(s0:Int×(List Qi)×(List Qg)×List Int)=>((Qc9 (Qw.mk s0.1 s0.2.1 s0.2.2.2 s0.2.2.1)).bind λf=>(Qr (λ(b:Int)=>((if (decide (b<(f.length:Int)))=true then (jn (λ(_:Unit)=>(some (.inl (i64.wrap (b+1))))) λc=>(idx f b).bind λk=>(if (decide (k<=0))=true then (c ()) else (Qdt (Qw.mk s0.1 s0.2.1 s0.2.2.2 s0.2.2.1) b).bind λj=>(Qr (λ(a:Int)=>((if (decide (a<s0.1))=true then (opt ((QaX j a).isSome==true) (idx f a) default).bind λl=>(if ((QaX j a).isSome&&(decide (l<0)))=true then (idx f a).bind λm=>(Qdg (Qw.mk s0.1 s0.2.1 s0.2.2.2 s0.2.2.1) j b a (imin k (i64.wrap (0 - m)))).bind λg=>(some (.inr (.inr ((g.2).n,(g.2).l,(g.2).arcs,(g.2).flow)))) else (some (.inl (i64.wrap (a+1))))) else (some (.inr (.inl ())))):Option ((Int)⊕((Unit)⊕(Int×(List Qi)×(List Qg)×List Int))))) (0:Int)).bind λn=>(match n with | .inl _=>none | .inr h=>(some (.inr (.inr (h.1,h.2.1,h.2.2.1,h.2.2.2))))))) else (some (.inr (.inl ())))):Option ((Int)⊕((Unit)⊕(Int×(List Qi)×(List Qg)×List Int))))) (0:Int)).bind λo=>(match o with | .inl _=>(some (.inr (([]:List Int),s0.1,s0.2.1,s0.2.2.1,s0.2.2.2))) | .inr i=>(some (.inl (i.1,i.2.1,i.2.2.1,i.2.2.2)))))) (e.n,e.l,e.arcs,e.flow)).bind λd=>(some (d.1,(Qw.mk d.2.1 d.2.2.1 d.2.2.2.2 d.2.2.2.1)))
instance Qm4:SpcS prog 70 (∀{c a g r},QcO g=some r->FnOk prog 70 [tv c] [bxN g.n g.l a g.arcs c,own rI 3 g.flow a] (λ_=>[bxN (r.2).n (r.2).l a (r.2).arcs c,own rI 3 (r.2).flow a]) (λ_=>tsn rI r.1)):=.mk λ{c a g r} h=>by
 unfold QcO at h
 refine Fe func70 ntmps70 λM0 M q n=>?_
 refine Qa 4 ?_ (λ_=>by refine' rx (.p rfl (Ql (.nilsn (R:=rI)))) 0 ?_;exact rnn)
 refine tScope ?_
 refine Qf λ_ y=>?_
 refine tLabel ?_
 refine y ?_
 have⟨z,h0,h⟩:=bs h
 refine tJr (λe=>[(2,tsn rI e.1)]) 257 (λe=>[bxN e.2.1 e.2.2.1 a e.2.2.2.1 c,own rI 3 e.2.2.2.2 a]) 129 (·=z) (λe d=>?_) λA=>?_
 ·subst d
  obtain rfl:=sj h
  exact QaQ undef [0,1] n
 refine Qk ?_
 refine Qaf h0 (λs0=>[]) 2 (λs0=>[bxN s0.1 s0.2.1 a s0.2.2.1 c,own rI 3 s0.2.2.2 a]) 129 2 ?_
 clear h
 intro s0 o s h f B
 refine Qk ?_
 have⟨t,C,h⟩:=bs h
 refine QU [v1 1 (λv0=>own rI 3 t v0)] [2] 28 (λD=>?_) (λ_=>by refine' pr 1 ?_;refine' rx (.m [0,1] [2] rfl rfl rfl (Qb2 [bxN s0.1 s0.2.1 a s0.2.2.1 c,own rI 3 s0.2.2.2 a] QuV (Qnt.ok C) (.cons (.boxP 2 z0 (.head _) (.tail _ (.head _)) rfl)<|.nil) (λ_=>Qa8) (λ_=>QlR (QkP (by intro x T h;simp at h;(first | (subst h;exact Qa8) | (rcases h with h | h | h<;>subst h<;>exact Qa8))))))) 1 ?_;exact rnn)
 refine Qf λE F=>?_
 refine Qa 126 ?_
 have⟨u,I,h⟩:=bs h
 refine tJp (λ_=>[]) 7 (λ_=>[]) 386 E (.inl ·=u) (λp1 d=>?_) λK=>?_
 ·subst d
  simp only at h
  refine F ?_
  refine Qa 6 ?_ (λ_=>by refine' rx (.p rfl (Ql (.nilsn (R:=rI)))) 0 ?_;exact rnn)
  refine QaA ?_
  exact Qx A (f _ (sj h).symm) 6
 have L:∀i,(.inr i)=u->To M q 76 [(0,tv c)] [bxN i.1 i.2.1 a i.2.2.1 c,own rI 3 i.2.2.2 a] s:=by
  intro i d;subst d;simp only at h;exact Qx B ((sj h).symm) 2
 refine Qk <|Qaf I (λp=>[(16,ti p)]) 1891647874 (λp=>[]) 127 110 ?_;clear h;intro p o K2 h f N;refine Qa 126 ?_;refine Qf λ_ O=>Qo h (λ_ h=>?_) λ_ h=>?_
 ·refine Qu <|O <|Qf λP Q=>?_;obtain⟨k,b,h⟩:=QlT h;refine tJp (λ_=>[]) 16259 (λ_=>[]) 127 P (k ·=some o) (λp3 h=>?_) λS=>?_
  ·rw[b] at h;clear b;refine Q <|QJ 124 ?_;exact Qx N ((sj h).symm) 2701165317
  clear b;refine Qk ?_;have⟨_,_,h⟩:=bs h;refine Qa 4016 ?_;refine tIfs h 1020 (λ_ h=>?_) λ_ h=>?_
  ·refine QQ <|Qx S h 496
  have⟨v,U,h⟩:=bs h;refine QU [v1 2 (λv0=>omap Qv v v0)] [3] 8152 (λm1=>?_) (λ_=>by refine' pr 2 ?_;refine' rx (.m [0,1] [3] rfl rfl rfl (Qb2 [bxN s0.1 s0.2.1 a s0.2.2.1 c,own rI 3 s0.2.2.2 a] QuW (QoC.ok U) (.cons (.boxP 2 z1 (.head _) (.tail _ (.head _)) rfl)<|.cons (.of z0)<|.nil) (λ_=>Qa8) (λ_=>QlR (QoV Qrg)))) 1 ?_;exact rnn);refine Qf λV W=>Qa 32752 ?_;have⟨w,X,h⟩:=bs h;refine tJp (λ_=>[]) 266470149 (λ_=>[]) 127 V (.inl ·=w) (λp4 d=>?_) λY=>?_
  ·subst d;simp only at h;refine W <|Qa 2000 ?_;refine Qf λ_ _=>Qf λ_ _=>?_;cases h
  have Z:∀j,(.inr j)=w->To M q 76 [(0,tv c)] [bxN j.1 j.2.1 a j.2.2.1 c,own rI 3 j.2.2.2 a] s:=by
   intro j d;subst d;simp only at h;exact Qx L (f _ (sj h).symm) 2
  refine Qk <|Qaf X (λl=>[(30,ti l)]) 266420354 (λl=>[]) 127 4086 ?_;clear h;intro l o K5 h f k7;refine Qa 4094 ?_;refine Qf λ_ k8=>Qo h (λ_ h=>?_) λ_ h=>?_
  ·refine Qu <|k8 <|Qf λ_ k9=>Qk <|Qa 16372 ?_;refine QU [v1 6 (λv0=>box (Qv.cs zz6) v0),v1 6 (λv0=>box (Qv.cs ((QaX v l).getD zz6)) v0)] [7,8] 1048322 (λm2=>?_) (λ_=>by refine' pr 2 ?_;refine' rx (.u [3] rfl rfl (Qq8 (x0:=zz6) Qlk ud3 Qdd Qid z1 z0)) 6 ?_;exact rnn);refine Q1 (λ_ _ H=>H.Xk [0,1,2,3] rfl) ?_;have⟨_,_,h⟩:=bs h;refine Qa 4193024 ?_;refine Qo h (λ_ h=>?_) λ_ h=>?_
   ·refine Q1 (As'':=[bxN s0.1 s0.2.1 a s0.2.2.1 c,own rI 3 s0.2.2.2 a,own rI 3 t (D 1)]) (λ_ _ H=>((H.Xk [3,0,1,2] rfl).shareM 5 rfl).pick [0,1,3,4,5,7,8,9,10,11,12,13]) ?_;have⟨_,_,m,h5,h⟩:=bs2 h;refine QU [v0 (bxN (m.2).n (m.2).l a (m.2).arcs c),v0 (own rI 3 (m.2).flow a)] [12,12] 26214464 (λm3=>?_) (λ_=>by refine' pr 11 ?_;refine' rx (.e [] [0,1] [3,4] rfl rfl rfl rfl (QO Qs2 (Qk0.ok h5) (.cons (.of z10)<|.cons (.of z9)<|.cons (.of z8)<|.cons (.of z7)<|.cons (.of z0)<|.nil))) 0 ?_;exact rnn);refine QQ <|Qan (λ_ _ H=>(H.pick [3]).Xk [1,2] rfl) ?_;exact Qx Z (f _ (sj h).symm) 2
   refine Qu <|k9 <|QJ 32724 ?_;exact Qx k7 ((sj h).symm) 204365540643748053255
  refine QQ <|Qx Y (f _ (sj h).symm) 4016
 refine QQ <|Qan (λ_ _ H=>(H.pick [5]).Xk [0,1] rfl) ?_;exact Qx K (f _ (sj h).symm) 2
def Qfy (a:Qe):Option (Bool):=(QaI a.Xj).bind λf=>(opt ((!f)==false) (Qhz a) default).bind λm=>(opt ((!f)==false) (Qev a m) default).bind λn=>(if ((!f)||(!n))=true then (some false) else (if (a.Xi==0)=true then (QbJ a.Lo (-1048576) 1048576).bind λo=>(some o) else (if (a.Xi==1)=true then (QaI a.Of).bind λk=>(opt (k==true) (Qd5 a.Lo a.Hi 0 65536) default).bind λp=>(some (k&&p)) else (if (a.Xi==2)=true then (Qd5 a.Lo a.Hi (-1048576) 1048576).bind λq=>(some q) else (if (a.Xi==3)=true then (QdO a.Words a.Xf).bind λr=>(some r) else (if (a.Xi==4)=true then (opt ((a.Of==([]:Str))==false) (QaI a.Of) default).bind λl=>(opt (((a.Of==([]:Str))||l)==true) (Qd5 a.Lo a.Hi (-1048576) 1048576) default).bind λs=>(some (((a.Of==([]:Str))||l)&&s)) else (if (a.Xi==5)=true then (QaI a.Of).bind λc=>(opt (c==true) (Qd5 a.Lo a.Hi 0 32) default).bind λg=>(some (c&&g)) else (if (a.Xi==6)=true then (QaI a.Of).bind λh=>(some h) else (if (a.Xi==7)=true then (QaI a.Of).bind λb=>(opt (b==true) (QaI a.Up) default).bind λd=>(opt ((b&&d)==true) (Qd5 a.Lo a.Hi 0 1048576) default).bind λi=>(some ((b&&d)&&i)) else (if (a.Xi==8)=true then (QaI a.Of).bind λe=>(opt (e==true) (QaI a.Up) default).bind λj=>(some (e&&j)) else (some false)))))))))))
instance Qz6:Spc1 prog 191 Qfy (λb=>[Qd.ty b]) tb:=.mk λ{b r} h=>by
 unfold Qfy at h
 refine Fe func191 ntmps191 λd M e a=>?_
 refine Qa 2 ?_
 have⟨_,_,_,_,_,_,h⟩:=bs3 h
 refine tIfs h 6144 (λ_ h=>?_) λ_ h=>?_
 ·refine Qa 2 ?_
  exact Qp h (·▸Qn a)
 refine Qf λ_ c=>?_
 refine Qa 20 ?_
 refine Qk ?_
 refine Qa 28 ?_
 refine Qo h (λ_ h=>?_) λ_ h=>?_
 ·have⟨_,_,h⟩:=bs h
  refine Qa 16 ?_
  exact Qp h (·▸Qn a)
 refine Qa 52 ?_
 refine Qo h (λ_ h=>?_) λ_ h=>?_
 ·have⟨_,_,_,_,h⟩:=bs2 h
  refine Qa 2048 ?_
  exact Qp h (·▸Qn a)
 refine Qa 52 ?_
 refine Qo h (λ_ h=>?_) λ_ h=>?_
 ·have⟨_,_,h⟩:=bs h
  refine Qa 64 ?_
  exact Qp h (·▸Qn a)
 refine Qa 52 ?_
 refine Qo h (λ_ h=>?_) λ_ h=>?_
 ·have⟨_,_,h⟩:=bs h
  refine Qa 64 ?_
  exact Qp h (·▸Qn a)
 refine Qa 52 ?_
 refine Qo h (λ_ h=>?_) λ_ h=>?_
 ·have⟨_,_,_,_,h⟩:=bs2 h
  refine Qa 65536 ?_
  exact Qp h (·▸Qn a)
 refine Qa 52 ?_
 refine Qo h (λ_ h=>?_) λ_ h=>?_
 ·have⟨_,_,_,_,h⟩:=bs2 h
  refine Qa 2048 ?_
  exact Qp h (·▸Qn a)
 refine Qa 52 ?_
 refine Qo h (λ_ h=>?_) λ_ h=>?_
 ·have⟨_,_,h⟩:=bs h
  refine Qa 16 ?_
  exact Qp h (·▸Qn a)
 refine Qa 52 ?_
 refine Qo h (λ_ h=>?_) λ_ h=>?_
 ·have⟨_,_,_,_,_,_,h⟩:=bs3 h
  refine Qa 65536 ?_
  exact Qp h (·▸Qn a)
 refine Qa 36 ?_
 refine Qo h (λ_ h=>?_) λ_ h=>?_
 ·have⟨_,_,_,_,h⟩:=bs2 h
  refine Qa 512 ?_
  exact Qp h (·▸Qn a)
 refine Qu ?_
 refine c ?_
 refine Qa 2 ?_
 exact Qp h (·▸Qn a)
def Qf1 (a:QA):Option (Bool):=(QaI a.Xj).bind λb=>(opt (b==true) (Qd5 a.Lo a.Hi 0 65536) default).bind λc=>(opt (((b&&c)&&(decide ((a.Xb.length:Int)<=10)))==true) (Qet a.Xb (λx0=>Qfy x0)) default).bind λd=>(some (((b&&c)&&(decide ((a.Xb.length:Int)<=10)))&&d))
instance QBg:Spc1 prog 164 Qf1 (λb=>[Qq.ty b]) tb:=.mk λ{b r} h=>by
 unfold Qf1 at h
 refine Fe func164 ntmps164 λc M d a=>?_
 refine Qa 2 ?_
 have⟨_,_,_,_,_,_,h⟩:=bs3 h
 refine Qa 4194304 ?_
 exact Qp h (·▸Qn a)
def Qe7 (c:Q2) (b:Int):Option (Q2):=(idx (c.x).Xa b).bind λy=>(idx y.Xb 0).bind λr=>(idx c.w b).bind λz=>(mk (z.length:Int) false).bind λA=>(Qeg (Q2.mk c.x c.old c.w) b 0).bind λs=>(Qr (λ(s0:Int×List (List (List Int))×Mp Bool×List Bool)=>(if (decide (s0.1<(s.length:Int)))=true then (idx s s0.1).bind λm=>(setAt s0.2.2.2 s0.1 ((decide (m>=r.Lo))&&(!((QaX s0.2.2.1 m).getD false)))).bind λt=>(idx t s0.1).bind λB=>((if B=true then (idx s0.2.1 b).bind λu=>(idx u s0.1).bind λv=>(idx v 0).bind λI=>(setAt v (0:Int) m).bind λd=>(setAt u s0.1 d).bind λe=>(setAt s0.2.1 b e).bind λf=>(mput s0.2.2.1 m true).bind λg=>(some (f,g)) else (some (s0.2.1,s0.2.2.1)))).bind λw=>(some (.inl ((i64.wrap (s0.1+1)),w.1,w.2,t))) else (some (.inr (s0.2.1,s0.2.2.1,s0.2.2.2))))) ((0:Int),c.w,(some []:Mp Bool),A)).bind λn=>(idx n.1 b).bind λC=>(Qr (λ(a:Int×Int×List (List (List Int))×Mp Bool)=>(if (decide (a.1<(C.length:Int)))=true then ((idx a.2.2.1 b).bind λD=>(idx D a.1).bind λK=>(idx n.2.2 a.1).bind λE=>(if E=true then (some (a.2.1,a.2.2.1,a.2.2.2)) else (Qr (λ(o:Int)=>(if ((QaX a.2.2.2 o).getD false)=true then (some (.inl (i64.wrap (o+1)))) else (some (.inr o)))) a.2.1).bind λp=>(idx a.2.2.1 b).bind λx=>(idx x a.1).bind λh=>(idx h 0).bind λF=>(setAt h (0:Int) p).bind λi=>(setAt x a.1 i).bind λj=>(setAt a.2.2.1 b j).bind λk=>(mput a.2.2.2 p true).bind λl=>(some (p,k,l)))).bind λq=>(some (.inl ((i64.wrap (a.1+1)),q.1,q.2.1,q.2.2))) else (some (.inr a.2.2.1)))) ((0:Int),r.Lo,n.1,n.2.1)).bind λH=>(some (Q2.mk c.x c.old H))
instance QnG:SpcS prog 18 (∀{e a c C r},Qe7 c C=some r->FnOk prog 18 [tv e,ti C] [bxM c.x c.old (dh a) e,deep (dRow (dOwn rI 3) 22) 40 c.w a] (λ_=>[bxM r.x r.old (dh a) e,deep (dRow (dOwn rI 3) 22) 40 r.w a]) (λ_=>ttup [])):=.mk λ{e a c C r} h=>by
 unfold Qe7 at h
 refine Fe func18 ntmps18 λM0 M w0 D=>?_
 have⟨_,_,_,_,h⟩:=bs2 h
 refine Qa 57344 ?_ (λ_=>by refine' pr 3 ?_;refine' rx (.u [0] rfl rfl (QeB Qcv z0)) 9 ?_;exact rnn)
 refine QU [v1 0 (λv0=>omap Qag (some []:Mp Bool) v0)] [1] 62 (λf=>?_) (λ_=>by refine' rx (.m [] [2] rfl rfl rfl (Qkm Qag)) 1 ?_;exact rnn)
 refine Qf λ_ k0=>?_
 have⟨r2,h0,t0,_,h⟩:=bs2 h
 refine QaG [v1 8 (λv0=>own Qag 4 t0 v0)] [9] 65040 (λE=>?_) (λ_=>by refine' pr 5 ?_;refine' rx (.u [1] rfl rfl (QaV ud29 QbR z1 z0 h0)) 0 ?_;refine' rx (.u [1] rfl rfl (Qa7 Qc0 z0 h0)) 0 ?_;refine' rx (.u [1] rfl rfl (.part (Q9 h0 .refl) (Qg9 ud40 z0))) 2 ?_;exact rnn)
 refine k0 ?_
 refine Qf λK0 k1=>?_
 have⟨t1,h1,h⟩:=bs h
 refine QU [v1 2 (λv0=>own rI 3 t1 v0)] [3] 16376 (λm2=>?_) (λ_=>by refine' pr 2 ?_;refine' rx (.m [0,1] [4] rfl rfl rfl (Qb2 [bxM c.x c.old (dh a) e,deep (dRow (dOwn rI 3) 22) 40 c.w a] QsW (Qke.ok h1) (.cons (.boxPD 5 z1 (.head _) (.tail _ (.head _)) rfl)<|.cons (.of z0)<|.cons (.of .k)<|.nil) (λ_=>Qa8) (λ_=>QlR (QkP (by intro x T h;simp at h;(first | (subst h;exact Qa8) | (rcases h with h | h | h<;>subst h<;>exact Qa8))))))) 2 ?_;exact rnn)
 have⟨e3,h2,h⟩:=bs h
 refine tJp (λ_=>[]) 2081927 (λB=>[deep (dRow (dOwn rI 3) 22) 40 B.1 a,omap Qag B.2.1 (f 0),own Qag 4 B.2.2 (E 8)]) 2113666 K0 (·=e3) (λB s=>?_) λJ0=>?_
 ·subst s
  refine k1 ?_
  refine Qa 220 ?_
  refine Qf λ_ k2=>?_
  have⟨r3,F,h⟩:=bs h
  refine QJ 16272 ?_ (λ_=>by refine' pr 5 ?_;refine' rx (.u [1] rfl rfl (QaV ud29 QbR z1 z0 F)) 0 ?_;refine' rx (.u [1] rfl rfl (Qa7 Qc0 z0 F)) 0 ?_;refine' rx (.u [1] rfl rfl (.part (Q9 F .refl) (Qg9 ud40 z0))) 1 ?_;exact rnn)
  refine k2 ?_
  have⟨e4,h4,h⟩:=bs h
  refine tJp (λ_=>[]) 9 (λW=>[deep (dRow (dOwn rI 3) 22) 40 W a]) 130 (Ret prog f18 M0 [bxM c.x c.old (dh a) e,deep (dRow (dOwn rI 3) 22) 40 c.w a] w0 (λ_=>[bxM r.x r.old (dh a) e,deep (dRow (dOwn rI 3) 22) 40 r.w a]) (λ_=>ttup []) .normal) (·=e4) (λW s=>?_) λJ1=>?_
  ·subst s
   obtain rfl:=sj h
   exact Qll undef [0,1] D
  refine Qk ?_
  refine Qaf h4 (λs0=>[(83,ti s0.1),(9,ti s0.2.1)]) 4365567934979 (λs0=>[deep (dRow (dOwn rI 3) 22) 40 s0.2.2.1 a,omap Qag s0.2.2.2 (f 0)]) 10502274 508 ?_
  clear h
  intro s0 o K1 h t k3
  refine Qa 510 ?_
  refine Qf λ_ k4=>?_
  refine Qo h (λ_ h=>?_) λ_ h=>?_
  ·refine Qu ?_
   refine k4 ?_
   refine Qf λK2 k5=>?_
   have⟨I,X,h⟩:=bs h
   refine tJ0 [(9,ti I.1)] 4365568000515 [deep (dRow (dOwn rI 3) 22) 40 I.2.1 a,omap Qag I.2.2 (f 0)] 10502274 K2 ?_ λY=>?_
   ·refine k5 ?_
    refine QJ 508 ?_
    exact Qx k3 ((sj h).symm) 61987669181189
   replace h:=X
   clear X
   refine Qk ?_
   refine Qf λ_ k6=>?_
   have⟨r4,Z,r5,h7,h⟩:=bs2 h
   refine QJ 16304 ?_ (λ_=>by refine' pr 1 ?_;refine' rx (.u [1] rfl rfl (.part (Q9 Z .refl) (QaV ud40 Qci z2 z4 h7))) 0 ?_;refine' rx (.u [1] rfl rfl (.part (Q9 Z .refl) (Qa7 Qbh z0 h7))) 2 ?_;exact rnn)
   refine k6 ?_
   refine Qf λ_ k7=>?_
   have⟨_,_,h⟩:=bs h
   refine Qa 16338 ?_
   refine QgJ 1 (λK=>?_) λK=>?_
   ·replace h:=QhV K h
    refine QQ ?_
    obtain rfl:=sj h
    exact QN Y 2032
   replace h:=QhW K h
   refine Qu ?_
   refine k7 ?_
   refine Qf λK3 k8=>?_
   have⟨e5,h8,h⟩:=bs h
   refine tJp (λp3=>[(9,ti p3)]) 558861427769988 (λ_=>[]) 127 K3 (·=e5) (λp3 s=>?_) λJ3=>?_
   ·subst s
    refine k8 ?_
    have⟨r6,h9,r7,u,r8,L,a0,g,h⟩:=bs4 h
    have⟨a1,i,v,j,w,k,h⟩:=bs3 h
    refine QaG [v0 (deep (dRow (dOwn rI 3) 22) 40 v a),v0 (omap Qag w (f 0))] [6,7] 16260 (λm3=>?_) (λ_=>by refine' pr 4 ?_;refine' rx (.u [1] rfl rfl (.part (Q9 h9 (Q9 u .refl)) (Qaz ud22 tok3 z3 .k L))) 0 ?_;refine' rx (.e [] [1] [4] rfl rfl rfl rfl (.focus (QbC h9 j (QbC u i (.refl λ_=>Iff.rfl))) (QbP tok3 z0 z1 g))) 0 ?_;refine' rx (.e [] [2] [5] rfl rfl rfl rfl (QjS Qog ud3 z3 z2 .k k)) 0 ?_;exact rnn)
    obtain rfl:=sj h
    refine Qan (λ_ _ H=>(H.pick [1,2,3,4,5,6,7]).Xk [0,2,3,1] rfl) ?_
    exact QN Y 254
   refine Qk ?_
   refine Qaf h8 (λN=>[(9,ti N)]) 558861427769988 (λN=>[]) 127 2040 ?_
   clear h
   intro N o K4 h t k9
   refine Qf λ_ O=>?_
   refine Qa 4090 ?_ (λ_=>by refine' pr 2 ?_;refine' rx (.u [2] rfl rfl (Qmr (x0:=false) Qog ud3 tok4 zok4 z1 z0)) 0 ?_;exact rnn)
   refine QgJ 1 (λP=>?_) λP=>?_
   ·replace h:=QhV P h
    refine Qu ?_
    refine O ?_
    refine Qk ?_
    refine QJ 8152 ?_
    exact Qx k9 ((sj h).symm) 10203949504300039
   replace h:=QhW P h
   refine QQ ?_
   exact Qx J3 (t _ (sj h).symm) 2040
  refine QQ ?_
  refine Qan (λ_ _ H=>(H.pick [7]).Xk [0,1] rfl) ?_
  exact Qx J1 (t _ (sj h).symm) 2
 refine Qk ?_
 refine Qaf h2 (λq=>[(38,ti q.1)]) 4366117388674 (λq=>[deep (dRow (dOwn rI 3) 22) 40 q.2.1 a,omap Qag q.2.2.1 (f 0),own Qag 4 q.2.2.2 (E 8)]) 1612726402 3918 ?_
 clear h
 intro q o K5 h t Q
 refine Qa 1022 ?_
 refine Qf λ_ R=>?_
 refine Qo h (λ_ h=>?_) λ_ h=>?_
 ·refine Qu ?_
  refine R ?_
  refine Qf λK6 S=>?_
  refine Qk ?_
  have⟨_,_,h⟩:=bs h
  refine Qa 32688 ?_
  have⟨t2,_,h⟩:=bs h
  refine QU [v0 (own Qag 4 t2 (E 8))] [13] 8380418 (λm4=>?_) (λ_=>by refine' pr 8 ?_;refine' rx (.gu [2] rfl rfl rfl bq2 (λhc=>Qmr (x0:=false) Qog ud3 tok4 zok4 (.cond z1 hc) (.cond z0 hc))) 4 ?_;exact rnn)
  have⟨_,_,h⟩:=bs h
  refine Qa 65522 ?_
  have⟨p4,y,h⟩:=bs h
  refine tJ0 [] 16263 [deep (dRow (dOwn rI 3) 22) 40 p4.1 a,omap Qag p4.2 (f 0)] 270631554 K6 ?_ λJ4=>?_
  ·refine S ?_
   refine QJ 1020 ?_
   refine Qan (λ_ _ H=>(H.pick [1,2,0,3,4,5,6,7]).Xk [0,3,4,2,1] rfl) ?_
   exact Qx Q ((sj h).symm) 510
  replace h:=y
  clear y
  refine QgJ 1 (λU=>?_) λU=>?_
  ·replace h:=QhV U h
   have⟨r9,b,a4,d,a5,V,a2,l,h⟩:=bs4 h
   have⟨a3,m,z,n,A,p,h⟩:=bs3 h
   refine QaG [v0 (deep (dRow (dOwn rI 3) 22) 40 z a),v0 (omap Qag A (f 0))] [15,16] 267552784 (λm5=>?_) (λ_=>by refine' pr 5 ?_;refine' rx (.u [1] rfl rfl (QaV ud29 QbR z1 z0 b)) 0 ?_;refine' rx (.u [1] rfl rfl (Qa7 Qc0 z0 b)) 1 ?_;refine' rx (.u [1] rfl rfl (.part (Q9 b .refl) (QaV ud40 Qci z1 z0 d))) 0 ?_;refine' rx (.u [1] rfl rfl (.part (Q9 b .refl) (Qa7 Qbh z0 d))) 3 ?_;refine' rx (.u [1] rfl rfl (.part (Q9 b (Q9 d .refl)) (Qaz ud22 tok3 z3 .k V))) 0 ?_;refine' rx (.e [] [1] [5] rfl rfl rfl rfl (.focus (QbC b n (QbC d m (.refl λ_=>Iff.rfl))) (QbP tok3 z0 z1 l))) 0 ?_;refine' rx (.e [] [2] [6] rfl rfl rfl rfl (QjS Qog ud3 z3 z2 .k p)) 0 ?_;exact rnn)
   obtain rfl:=sj h
   exact QN J4 8160
  replace h:=QhW U h
  refine Qu ?_
  obtain rfl:=sj h
  refine Qan (λ_ _ H=>(H.pick [5,6,7,8,9,10,11,12]).Xk [0,3,4,1,2] rfl) ?_
  exact QN J4 510
 refine QQ ?_
 refine Qan (λ_ _ H=>(H.pick [4,5,6,7,8]).Xk [0,1,2,3] rfl) ?_
 exact Qx J0 (t _ (sj h).symm) 62

/- The generator gives valid schemas. No condition. -/
import Derived.Test.YtlajingmjmnfgaaGreatDoorCoJ
set_option linter.all false
open List Go.IntKind
namespace Go.Proofs.YtlajingmjmnfgaaGreatDoor
open Go.Sim
set_option maxHeartbeats 1000000 in
def QtF {m:Qt} {l:List Qg} {N:Nat} (hm:MOk m) (hl:l.length<=2) (hN:N<=20) (hk:∀k∈l,KV N k):
  Ok (Qbm m l) (λr=>(KV 9 r.1/\(l.length<=1->KV 8 r.1)/\(l.length=0->KV 5 r.1))/\MOk r.2.1/\r.2.2.length=l.length/\∀k∈r.2.2,KV (N+1) k):=by
 unfold Qbm;refine Ok.take hm (by decide) λr1 m1 a1 b1 h1=>?_;refine Ok.idx a1 (by simpa using b1) λlo hlo _=>?_;refine Ok.idx (by omega) (by simp;omega) λname hname _=>?_;have hsn:QK name=true:=by simp only[Zo,Zw,ZI] at hname;rcases hname with rfl | rfl | rfl<;>decide
 have hlo2:0<=lo/\lo<=4:=by simp only[Zo,Zw,ZI] at hlo;omega
 refine Ok.take h1 (by decide) λr2 m2 a2 b2 h2=>?_;refine Ok.take h2 (by decide) λr3 m3 a3 b3 h3=>?_;refine Ok.idx a3 (by simpa using b3) λid0 hid _=>?_;have hid2:VF ⟨[105,100],[],[],0,id0,0,[],[]⟩:=by simp only[Zo,Zw,ZI] at hid;exact vf_key (by decide) (by omega)
 have hone:∀f∈([⟨[105,100],[],[],0,id0,0,[],[]⟩]:List Qc),VF f:=λf hf=>by rw[Zh] at hf;subst hf;exact hid2
 refine Ok.rm (by simp) ?_;refine Ok.bind (P:=λp:Qt×List Qc×List Qg=>MOk p.1/\(p.2.1.length<=4/\(l.length=0->p.2.1.length<=1))/\(∀f∈p.2.1,VF f)/\p.2.2.length=l.length/\∀k∈p.2.2,KV (N+1) k)
  (Ok.ite (λhpos=>?_) (λ_=>Ok.mk ⟨h3,⟨by simp,by simp⟩,hone,rfl,λk h=>(hk k h).Xp (by omega)⟩)) λp hp=>?_
 ·have hpos':(0:Int)<l.length:=ZC hpos;refine Ok.take h3 (by omega) λto m4 a4 b4 h4=>?_;refine Ok.idx a4 b4 λkt hkt ekt=>?_;refine Ok.take h4 (by decide) λr5 m5 a5 b5 h5=>?_;refine Ok.idx a5 (by simpa using b5) λhi hhi _=>?_;have hhi2:2<=hi/\hi<=8:=by
   simp only[Zo,Zw,ZI] at hhi;omega
  refine Ok.take h5 (by decide) λr6 m6 _ _ h6=>?_;have skt:=(hk kt hkt).2.2.1;refine Ok.bind (P:=VF) (Ok.ite (λ_=>Ok.mk (Qr2 (by decide) skt (by omega))) (λ_=>Ok.mk (Qr2 (by decide) skt (by omega)))) λf hf=>?_;refine Ok.rm (by simp) ?_;refine Ok.idx a4 b4 λkt1 hkt1 _=>?_;refine (QpA (by have:=(hk _ hkt1).1;omega)).bind λc hc=>?_;refine Ok.opt (P:=λr:Int×Qt=>MOk r.2) (λh=>(Qd4 h6 (by decide)).Xp λr h=>h.2.2) λr7 h7=>?_;have m7:MOk (bif (decide (c>=(0:Int)))==true then r7.2 else m6):=QdL (λh=>h7 (by rw[h];rfl)) h6;refine Ok.bind (P:=λp:List Qc=>p.length<=3/\∀f∈p,VF f) (Ok.ite (λh=>?_) (λ_=>Ok.mk ⟨by simp,?_⟩)) λfs hfs=>?_
  ·simp only[Zf,Zk] at h;refine Ok.idx a4 b4 λkt2 hkt2 ekt2=>?_;have e:kt2=kt1:=by simp_all
   subst e;refine Ok.idx h.1 hc.2 λg hg _=>Ok.rm (by simp) (Ok.mk ⟨by simp,?_⟩);have sg:=((hk _ hkt1).2.1 g hg).name;intro x hx;simp only[Yf,Ys,Zo,Zw,ZI] at hx;rcases hx with rfl | rfl | rfl
   ·exact hid2
   ·exact hf
   ·exact QCQ (by decide) sg (by decide)
  ·intro x hx;simp only[Yf,Ys,Zo,Zw,ZI] at hx;rcases hx with rfl | rfl
   ·exact hid2
   ·exact hf
  ·refine Ok.idx a4 b4 λkt3 hkt3 ekt3=>?_;refine (Qiu (by have:=(hk _ hkt3).1;omega)).bind λtot htot=>?_;refine Ok.opt (P:=λr:Int×Qt=>MOk r.2) (λh=>(Qd4 m7 (by decide)).Xp λr h=>h.2.2) λr8 h8=>?_;have m8:MOk (bif (decide (tot<(0:Int)))==true then r8.2 else (bif (decide (c>=(0:Int)))==true then r7.2 else m6)):=QdL (λh=>h8 (by rw[h];rfl)) m7;refine Ok.bind (P:=λp:Qt×List Qc×List Qg=>MOk p.1/\(p.2.1.length<=4/\(l.length=0->p.2.1.length<=1))/\(∀f∈p.2.1,VF f)/\p.2.2.length=l.length/\∀k∈p.2.2,KV (N+1) k)
    (Ok.ite (λh=>?_) (λ_=>Ok.mk ⟨m8,⟨by have:=hfs.1;dsimp only;omega,λh0=>by omega⟩,hfs.2,rfl,λk h=>(hk k h).Xp (by omega)⟩)) λp hp=>Ok.mk hp
   refine Ok.take m8 (by decide) λr9 m9 a9 b9 h9=>Ok.take h9 (by decide) λr10 m10 a10 b10 h10=>?_;refine Ok.rm (by have:=hfs.1;simp;omega) ?_;refine Ok.idx a4 b4 λkt4 hkt4 ekt4=>?_;have hk4:=hk _ hkt4;have hk41:=hk4.1;refine Ok.rm (by simp;omega) (Ok.rm (by simp;omega) ?_);refine Ok.idx a4 b4 λkt5 hkt5 ekt5=>?_;have e:kt5=kt4:=by simp_all
   subst e;refine Ok.setAt a4 b4 (Ok.mk ⟨h10,⟨?_,λh0=>by omega⟩,?_,?_,?_⟩)
   ·have:=hfs.1;simp;omega
   ·intro x hx;rcases Zs.1 hx with hx | hx
    ·exact hfs.2 x hx
    ·rw[Zh] at hx;subst hx;rw[w64 (n:=r9+r10) (by omega) (by omega)];exact Qzh (by decide) (by decide) (by decide) (by omega)
   ·simp
   ·intro k hkm;rcases mem_or_eq_of_mem_set hkm with hkm | rfl
    ·exact (hk k hkm).Xp (by omega)
    ·refine⟨?_,?_,hk4.2.2⟩
     ·simp;omega
     ·intro x hx;rcases Zs.1 hx with hx | hx
      ·exact hk4.2.1 x (by simpa using hx)
      ·rw[Zh] at hx;subst hx;exact vf_sum (by decide) hsn
 ·obtain⟨q1,⟨q2,q6⟩,q3,q4,q5⟩:=hp;refine Ok.opt (P:=λr:Int×Qt=>MOk r.2) (λh=>(Qd4 q1 (by decide)).Xp λr h=>h.2.2) λr11 h11=>?_;have m11:MOk (bif (decide ((l.length:Int)>(1:Int)))==true then r11.2 else p.1):=QdL (λh=>h11 (by rw[h];rfl)) q1;refine Ok.bind (P:=λp:List Qc=>(p.length<=5/\(l.length<=1->p.length<=4)/\(l.length=0->p.length<=1))/\∀f∈p,VF f) (Ok.ite (λh=>?_) (λ_=>Ok.mk ⟨⟨by omega,λ_=>q2,q6⟩,q3⟩)) λfs hfs=>?_
  ·simp only[Zf,Zk] at h;refine Ok.idx (by decide) (by omega) λk0 hk0 _=>Ok.rm (by simp;omega) (Ok.mk ⟨⟨by simp;omega,λh1=>by omega,λh1=>by omega⟩,?_⟩);intro x hx;rcases Zs.1 hx with hx | hx
   ·exact q3 x hx
   ·rw[Zh] at hx;subst hx;exact Qr2 (by decide) (q5 k0 hk0).2.2.1 (by decide)
  ·refine (QtD m11).bind λr12 h12=>?_;obtain⟨c1,c2,c3⟩:=h12;obtain⟨⟨f1,f3,f4⟩,f2⟩:=hfs;refine Ok.rm (by omega) ?_;refine Ok.take c3 (by decide) λr13 m13 _ _ h13=>?_;have all7:∀f∈fs++r12.1,VF f:=λx hx=>(Zs.1 hx).elim (f2 x) (c2 x);have len7:(fs++r12.1).length<=7/\(l.length<=1->(fs++r12.1).length<=6)/\(l.length=0->(fs++r12.1).length<=3):=by
    rw[Ze];exact⟨by omega,λh=>by have:=f3 h;omega,λh=>by have:=f4 h;omega⟩
   obtain⟨len7,len6,len3⟩:=len7;have eh:i64.wrap (lo+r2)=lo+r2:=w64 (by omega) (by omega);refine Ok.bind (P:=λp:Qt×List Qc=>MOk p.1/\(p.2.length<=9/\(l.length<=1->p.2.length<=8)/\(l.length=0->p.2.length<=5))/\∀f∈p.2,VF f) (Ok.ite (λh=>?_) (λ_=>Ok.mk ⟨h13,⟨by dsimp only;omega,λh=>by have:=len6 h;dsimp only;omega,λh=>by have:=len3 h;dsimp only;omega⟩,all7⟩)) λp52 hp52=>Ok.mk ⟨⟨⟨hp52.2.1.1,hp52.2.2,hsn,?_⟩,λh=>⟨hp52.2.1.2.1 h,hp52.2.2,hsn,?_⟩,λh=>⟨hp52.2.1.2.2 h,hp52.2.2,hsn,?_⟩⟩,hp52.1,q4,q5⟩
   rotate_left
   ·dsimp only;rw[eh];omega
   ·dsimp only;rw[eh];omega
   ·dsimp only;rw[eh];omega
   refine (QtD h13).bind λr14 h14=>?_;obtain⟨d1,d2,d3⟩:=h14;refine Ok.opt (P:=λ_=>True) (λh=>?_) λg _=>?_
   ·have h':(r14.1.length:Int)>0:=by simpa using h
    exact (Ok.idx (by decide) (by omega) λv _ _=>Ok.mk trivial:Ok ((idx r14.1 0).bind some) _).Xp (λ_ h=>h) |> λh=>by simpa using h
   refine Ok.opt (P:=λ_=>True) (λh=>(Qiu (by omega)).Xp λ_ _=>trivial) λg2 _=>?_;refine Ok.bind (P:=λp:List Qc=>(p.length<=9/\(l.length<=1->p.length<=8)/\(l.length=0->p.length<=5))/\∀f∈p,VF f) (Ok.ite (λh=>Ok.rm (by omega) (Ok.mk ⟨⟨by rw[Ze];omega,λh=>by rw[Ze];have:=len6 h;omega,λh=>by rw[Ze];have:=len3 h;omega⟩,λx hx=>(Zs.1 hx).elim (all7 x) (d2 x)⟩)) (λ_=>Ok.mk ⟨⟨by omega,λh=>by have:=len6 h;omega,λh=>by have:=len3 h;omega⟩,all7⟩)) λp64 hp64=>Ok.mk ⟨d3,hp64.1,hp64.2⟩
def QpY {s:Str} (h:QK s=true):∀c∈s,(Qcf (c.toNat:Int)||Qff (c.toNat:Int))=true:=by unfold QK at h;simp only[Zf] at h;intro c hc;have h3:=h.2.2;unfold QZ at h3;rw[all_map] at h3;exact Zu.1 h3 c hc
def Qmc {a r:Str} (ha:QK a=true) (hl:a.length<=10) (hr:r.length=1) (hm:∀c∈r,(Qcf (c.toNat:Int)||Qff (c.toNat:Int))=true):QK (a++r)=true:=by
 cases a with
 | nil=>cases ha
 | cons b a=>
  have hall:=QpY ha;unfold QK at ha ⊢;simp only[Zf,Ys] at ha ⊢;refine⟨QhJ (by simp only[Zj,Ze] at hl ⊢;omega),ha.2.1,?_⟩;unfold QZ;rw[all_map,Zu];intro c hc;rw[<-Ys] at hc;rcases Zs.1 hc with hc | hc
  ·exact hall c hc
  ·exact hm c hc
def QCR {m:Qt} {k:Qg} (hm:MOk m) (hk:KV 9 k):Ok (Qbn m k) (λr=>(r.2.1=true->QbX r.1=true)/\MOk r.2.2):=by
 unfold Qbn;obtain⟨k1,k2,ks,_⟩:=hk;have kl:=Qa5 ks;have k0:1<=k.Xj.length:=by unfold QK at ks;simp only[Zf] at ks;have:=(Qa1 ks.1).1;omega
 refine (Qiu (by omega)).bind λa ha=>(Qiu (by omega)).bind λb hb=>?_;refine Ok.opt (P:=λr:Int×Qt=>MOk r.2) (λh=>(Qd4 hm (by decide)).Xp λr h=>h.2.2) λr1 h1=>?_;have m1:MOk (bif (decide (a>=(0:Int)))==true then r1.2 else m):=QdL (λh=>h1 (by rw[h];rfl)) hm;have nm:∀{β:Type} {Q:β->Prop} {f:Str->Option β},(∀r:Str,r.length=1->(∀c∈r,(Qcf (c.toNat:Int)||Qff (c.toNat:Int))=true)->Ok (f r) Q)->Ok ((sub k.Xj 0 1).bind f) Q:=λh=>Ok.sub (by decide) (by decide) (by omega) λr hr hrm=>h r (by simpa using hr) λc hc=>QpY ks c (hrm c hc);have fin:∀{n a b:Str} {v:Int},QK n=true->((a==[])||QK a)=true->((b==[])||QK b)=true->(a++b !=[])=true->-2000<=v/\v<=2000->QbX ⟨n,k.Xj,a,b,v⟩=true:=λh1 h2 h3 h4 h5=>by unfold QbX;simp only[h1,ks,h2,h3,h4,Bool.true_and,Bool.and_self];exact QhJ (by omega)
 refine Ok.ite (λ_=>nm λr hr hm=>Ok.cat (by simp;omega) (Ok.take m1 (by decide) λv m2 a2 b2 h2=>Ok.mk ⟨λ_=>?_,h2⟩)) (λ_=>?_)
 ·dsimp only;rw[w64 (n:=v - 2) (by omega) (by omega)];exact fin (Qmc (by decide) (by decide) hr hm) (by decide) (by decide) (by decide) (by omega)
 refine Ok.ite (λ_=>Ok.mk ⟨λh=>(by cases h),m1⟩) (λh=>?_);have hb0:¬b<0:=ZS h;refine Ok.idx (by omega) hb.2 λf hf _=>Ok.take m1 (by decide) λr2 m2 _ _ h2=>?_;obtain⟨_,_,hlo,hhi⟩:=k2 f hf;refine Ok.ite (λ_=>nm λr hr hm=>Ok.cat (by simp;omega) (Ok.take h2 (by decide) λv m2 a2 b2 h2=>Ok.mk ⟨λ_=>?_,h2⟩)) (λ_=>nm λr hr hm=>Ok.cat (by simp;omega) (Ok.take h2 (by decide) λv m2 a2 b2 h2=>Ok.mk ⟨λ_=>?_,h2⟩))
 ·dsimp only;rw[w64 (n:=f.Lo+v) (by omega) (by omega)];exact fin (Qmc (by decide) (by decide) hr hm) (by decide) (by decide) (by decide) (by omega)
 ·dsimp only;rw[w64 (n:=v - f.Hi) (by omega) (by omega)];exact fin (Qmc (by decide) (by decide) hr hm) (by decide) (by decide) (by decide) (by omega)
def bdN (n:Nat):Nat:=if n<=1 then 5 else if n<=2 then 8 else 9
def Qzj {l:List Int} (hl:∀x∈l,I64 x):Ok (Qb7 l) (λx=>Tiny x/\Qeo x=true/\∀k∈x.Xa,KV 9 k):=by
 unfold Qb7;refine Ok.sub (by decide) (by unfold imin;split<;>omega) (by unfold imin;split<;>omega) λw _ hw=>?_;have h0:MOk (Qt.mk w 0):=λx hx=>hl x (hw x hx);refine Ok.take h0 (by decide) λv m1 av bv h1=>Ok.take h1 (by decide) λn m2 a2 b2 h2=>?_;have en:i64.wrap (1+n)=1+n:=w64 (by omega) (by omega);refine Ok.bind (P:=λp:List Qg×Qt=>p.1.length=1+n/\(∀k∈p.1,KV 9 k)/\MOk p.2)
  (Ok.loop (λk s=>0<=s.1/\s.1+k=1+n/\s.2.1.length=s.1/\(∀q∈s.2.1,KV (bdN s.1.toNat) q)/\MOk s.2.2) (1+n).toNat ⟨ZO _,by dsimp only;omega,by simp,by simp,h2⟩ λk s hs=>?_) (λp hp=>?_)
 ·obtain⟨i,ks,m3⟩:=s;obtain⟨e1,e2,e3,e4,e5⟩:=hs;dsimp only at e1 e2 e3 e4 e5;have hbd:bdN i.toNat<=9:=by unfold bdN;split<;>(try split)<;>omega
  refine Ok.ite (λh=>?_) (λh=>?_)
  ·have h':i<1+n:=by have:=ZC h;rwa [en] at this
   refine (QtF (N:=bdN i.toNat) e5 (by omega) (by omega) e4).bind λr hr=>?_;obtain⟨⟨r1,r5,r6⟩,r2,r3,r4⟩:=hr;refine Ok.rm (by simp;omega) (Ok.mk ?_);have ei:i64.wrap (i+1)=i+1:=w64 (by omega) (by omega);refine⟨k - 1,by omega,?_⟩;dsimp only;rw[ei];refine⟨by omega,by omega,by simp;omega,λq hq=>?_,r2⟩;have hi:i=0\/i=1\/i=2:=by omega
   rcases Zs.1 hq with hq | hq
   ·refine (r4 q hq).Xp ?_;rcases hi with rfl | rfl | rfl
    ·have:ks.length=0:=by omega
     rw[length_eq_zero_iff.1 (by rw[r3,this]:r.2.2.length=0)] at hq;cases hq
    ·decide
    ·decide
   ·rw[Zh] at hq;subst hq;rcases hi with rfl | rfl | rfl
    ·exact r6 (by omega)
    ·exact r5 (by omega)
    ·exact r1
  ·have h':¬i<1+n:=by have:=ZS h;rwa [en] at this
   refine Ok.mk ⟨by dsimp only;omega,λq hq=>(e4 q hq).Xp hbd,e5⟩
 obtain⟨p1,p2,p3⟩:=hp;refine Ok.take p3 (by decide) λt m4 a4 b4 h4=>?_;have et:i64.wrap (2+t)=2+t:=w64 (by omega) (by omega);refine Ok.sub (by decide) (by dsimp only;rw[et];omega) (by dsimp only;rw[et];simp;omega) λst hst hsm=>?_;dsimp only at hst;rw[et] at hst;have hsl:2<=st.length/\st.length<=4:=by omega
 have hsn:st.all QK=true:=by rw[Zu];intro s hs;have:=hsm s hs;simp only[Zo,Zw,ZI] at this;rcases this with rfl | rfl | rfl | rfl<;>decide
 have mv:∀{a b:Int},0<=a/\a<st.length->0<=b/\b<st.length->QdA (st.length:Int) ⟨a,b⟩=true:=λh1 h2=>by unfold QdA;rw[QhJ (by dsimp only;omega),QhJ (by dsimp only;omega)];rfl
 refine Ok.bind (P:=λp:List QO=>p.length<=3/\∀m∈p,QdA (st.length:Int) m=true) (Ok.loop (λk s=>0<=s.1/\s.1+1+k=st.length/\s.2.length=s.1/\∀m∈s.2,QdA (st.length:Int) m=true) (st.length - 1) ⟨ZO _,by dsimp only;omega,by simp,by simp⟩ λk s hs=>?_) (λmvs hmv=>?_)
 ·obtain⟨i,ms⟩:=s;obtain⟨e1,e2,e3,e4⟩:=hs;dsimp only at e1 e2 e3 e4;have ei:i64.wrap (i+1)=i+1:=w64 (by omega) (by omega);refine Ok.ite (λh=>?_) (λh=>?_)
  ·have h':i+1<st.length:=by have:=ZC h;rwa [ei] at this
   refine Ok.rm (by simp;omega) (Ok.mk ⟨k - 1,by omega,?_⟩);dsimp only;rw[ei];refine⟨by omega,by omega,by simp;omega,λq hq=>?_⟩;rcases Zs.1 hq with hq | hq
   ·exact e4 q hq
   ·rw[Zh] at hq;subst hq;exact mv (by omega) (by omega)
  ·have h':¬i+1<st.length:=by have:=ZS h;rwa [ei] at this
   exact Ok.mk ⟨by dsimp only;omega,e4⟩
 obtain⟨hmv,hmm⟩:=hmv;have addm:∀{ms:List QO} {m:QO},(∀q∈ms,QdA (st.length:Int) q=true)->QdA (st.length:Int) m=true->∀q∈ms++[m],QdA (st.length:Int) q=true:=λh1 h2 q hq=>by
  rcases Zs.1 hq with hq | hq
  ·exact h1 q hq
  ·rw[Zh] at hq;subst hq;exact h2
 refine Ok.take h4 (by decide) λr5 m5 _ _ h5=>?_;refine Ok.bind (P:=λp:List QO=>p.length<=4/\∀m∈p,QdA (st.length:Int) m=true) (Ok.ite (λ_=>Ok.rm (by simp;omega) (Ok.mk ⟨by simp;omega,addm hmm (mv (by omega) (by omega))⟩)) (λ_=>Ok.mk ⟨by omega,hmm⟩)) λmv2 hmv2=>?_;obtain⟨hmv2,hmm2⟩:=hmv2;refine Ok.take h5 (by decide) λr6 m6 _ _ h6=>?_;have es:i64.wrap ((st.length:Int) - 1)=(st.length:Int) - 1:=w64 (by omega) (by omega);refine Ok.bind (P:=λp:List QO=>p.length<=5/\∀m∈p,QdA (st.length:Int) m=true) (Ok.ite (λ_=>Ok.rm (by simp;omega) (Ok.mk ⟨by simp;omega,by rw[es];exact addm hmm2 (mv (by omega) (by omega))⟩)) (λ_=>Ok.mk ⟨by omega,hmm2⟩)) λmv3 hmv3=>?_;obtain⟨hmv3,hmm3⟩:=hmv3;refine Ok.rm (by simp) ?_;refine Ok.bind (P:=λp:List Qs=>p.length<=2/\∀r∈p,QbX r=true) (Ok.loop (λk s=>0<=s.1/\s.1+k=1+n/\(s.2.1.length<=2/\∀r∈s.2.1,QbX r=true)/\MOk s.2.2) (1+n).toNat ⟨ZO _,by dsimp only;omega,by simp,h6⟩ λk s hs=>?_) (λrs hrs=>?_)
 ·obtain⟨i,rs,m7⟩:=s;obtain⟨e1,e2,e3,e4⟩:=hs;dsimp only at e1 e2 e3 e4;refine Ok.ite (λh=>?_) (λh=>Ok.mk e3);simp only[Zf,Zk,en] at h;refine Ok.idx e1 (by omega) λq hq _=>(QCR e4 (p2 q hq)).bind λr hr=>?_;refine Ok.bind (P:=λp:List Qs=>p.length<=2/\∀r∈p,QbX r=true) (Ok.ite (λhy=>Ok.rm (by simp;omega) (Ok.mk ⟨by simp;omega,λy hy2=>(Zs.1 hy2).elim (e3.2 y) λhy3=>by rw[Zh] at hy3;subst hy3;exact hr.1 hy⟩)) (λ_=>Ok.mk e3)) λrs2 hrs2=>Ok.mk ⟨k - 1,by omega,?_⟩;dsimp only;rw[w64 (n:=i+1) (by omega) (by omega)];exact⟨by omega,by omega,hrs2,hr.2⟩
 ·refine Ok.mk ⟨⟨by dsimp only;omega,λk hk f hf=>((p2 k hk).2.1 f hf).2.1,by simp,?_,hrs.1⟩,?_,p2⟩
  ·intro q hq;simp only[Yf,Zh] at hq;subst hq;exact⟨by dsimp only;omega,by dsimp only;omega⟩
  ·have hk:p.1.all kindS=true:=by
    rw[Zu];intro k hk;obtain⟨c1,c2,c3,c4⟩:=p2 k hk;unfold kindS;simp only[Zf,Zk,Zu];exact⟨⟨⟨c3,Qjg c4⟩,by omega⟩,λf hf=>(c2 f hf).1⟩
   have hlf:QdX ⟨[108,105,102,101],st,mv3⟩=true:=by unfold QdX;simp only[Zf,Zk];exact⟨⟨⟨⟨by decide,QhJ (by omega)⟩,hsn⟩,by omega⟩,Zu.2 hmm3⟩
   unfold Qeo;simp only[Zf,Zk];refine⟨⟨⟨⟨⟨⟨QhJ (by omega),by omega⟩,by simp⟩,by have:=hrs.1;omega⟩,hk⟩,?_⟩,Zu.2 hrs.2⟩;simp[hlf]
inductive QbY:List Ks->Prop
 | nil:QbY []
 | snoc {T:List Ks} {q:Ks} {T':List Ks} (h:QbY T) (hl:T.length<=2) (hn:QiG[T.length]?=some q.1) (hk:Qer T q T'):QbY (T'++[q])
def Qg5 (K:List Qg) (i:Int) (R:List Qs):Prop:=∃ps:List (Nat×Qs),ps.map Prod.snd=R/\(ps.map Prod.fst).Pairwise (·< ·)/\∀p∈ps,(p.1:Int)<i/\∃k,K[p.1]?=some k/\Qld (ks k) p.2
def Qzk {l:List Int} (hl:∀x∈l,I64 x):Ok (Qb7 l) (λx=>(QbY (x.Xa.map ks)/\(∀k∈x.Xa,k.Hi - k.Lo<=29)/\1<=x.Xa.length)/\(∃L,x.Xd=[L]/\L.Xj=[108,105,102,101])/\∃n,Qg5 x.Xa n x.Xc):=by
 unfold Qb7;refine Ok.sub (by decide) (by unfold imin;split<;>omega) (by unfold imin;split<;>omega) λw _ hw=>?_;have h0:MOk (Qt.mk w 0):=λx hx=>hl x (hw x hx);refine Ok.take h0 (by decide) λv m1 av bv h1=>Ok.take h1 (by decide) λn m2 a2 b2 h2=>?_;have en:i64.wrap (1+n)=1+n:=w64 (by omega) (by omega);refine Ok.bind (P:=λp:List Qg×Qt=>(p.1.length=1+n/\(∀k∈p.1,KV 9 k)/\MOk p.2)/\QbY (p.1.map ks)/\∀k∈p.1,k.Hi - k.Lo<=29)
  (Ok.loop (λk s=>(0<=s.1/\s.1+k=1+n/\s.2.1.length=s.1/\(∀q∈s.2.1,KV (bdN s.1.toNat) q)/\MOk s.2.2)/\QbY (s.2.1.map ks)/\∀k∈s.2.1,k.Hi - k.Lo<=29) (1+n).toNat ⟨⟨ZO _,by dsimp only;omega,by simp,by simp,h2⟩,QbY.nil,by simp⟩ λk s hs=>?_) (λp hp=>?_)
 ·obtain⟨i,ks',m3⟩:=s;obtain⟨⟨e1,e2,e3,e4,e5⟩,e6,e7⟩:=hs;dsimp only at e1 e2 e3 e4 e5 e6 e7;have hbd:bdN i.toNat<=9:=by unfold bdN;split<;>(try split)<;>omega
  refine Ok.ite (λh=>?_) (λh=>?_)
  ·have h':i<1+n:=by have:=ZC h;rwa [en] at this
   refine (Ok.and (QtF (N:=bdN i.toNat) e5 (by omega) (by omega) e4) (kind_w (N:=bdN i.toNat) e5 (by omega) (by omega) (λq hq=>(e4 q hq).1) e7)).bind λr hr=>?_;obtain⟨⟨⟨r1,r5,r6⟩,r2,r3,r4⟩,⟨w1,w2⟩,⟨_,w3⟩,w4⟩:=hr;refine Ok.rm (by simp;omega) (Ok.mk ?_);have ei:i64.wrap (i+1)=i+1:=w64 (by omega) (by omega);refine⟨k - 1,by omega,?_⟩;dsimp only;rw[ei];refine⟨⟨by omega,by omega,by simp;omega,λq hq=>?_,r2⟩,?_,λq hq=>?_⟩
   ·have hi:i=0\/i=1\/i=2:=by omega
    rcases Zs.1 hq with hq | hq
    ·refine (r4 q hq).Xp ?_;rcases hi with rfl | rfl | rfl
     ·have:ks'.length=0:=by omega
      rw[length_eq_zero_iff.1 (by rw[r3,this]:r.2.2.length=0)] at hq;cases hq
     ·decide
     ·decide
    ·rw[Zh] at hq;subst hq;rcases hi with rfl | rfl | rfl
     ·exact r6 (by omega)
     ·exact r5 (by omega)
     ·exact r1
   ·rw[ZM];exact QbY.snoc e6 (by rw[Zz];omega) (by rw[Zz];exact w1) w4
   ·rcases Zs.1 hq with hq | hq
    ·exact w3 q hq
    ·rw[Zh] at hq;subst hq;exact w2
  ·have h':¬i<1+n:=by have:=ZS h;rwa [en] at this
   exact Ok.mk ⟨⟨by dsimp only;omega,λq hq=>(e4 q hq).Xp hbd,e5⟩,e6,e7⟩
 obtain⟨⟨p1,p2,p3⟩,p4,p5⟩:=hp;refine Ok.take p3 (by decide) λt m4 a4 b4 h4=>?_;have et:i64.wrap (2+t)=2+t:=w64 (by omega) (by omega);refine Ok.sub (by decide) (by dsimp only;rw[et];omega) (by dsimp only;rw[et];simp;omega) λst hst hsm=>?_;dsimp only at hst;rw[et] at hst;have hsl:2<=st.length/\st.length<=4:=by omega
 refine Ok.bind (P:=λp:List QO=>p.length<=3) (Ok.loop (λk s=>0<=s.1/\s.1+1+k=st.length/\s.2.length=s.1) (st.length - 1) ⟨ZO _,by dsimp only;omega,by simp⟩ λk s hs=>?_) (λmvs hmv=>?_)
 ·obtain⟨i,ms⟩:=s;obtain⟨e1,e2,e3⟩:=hs;dsimp only at e1 e2 e3;have ei:i64.wrap (i+1)=i+1:=w64 (by omega) (by omega);refine Ok.ite (λh=>?_) (λh=>?_)
  ·have h':i+1<st.length:=by have:=ZC h;rwa [ei] at this
   refine Ok.rm (by simp;omega) (Ok.mk ⟨k - 1,by omega,?_⟩);dsimp only;rw[ei];exact⟨by omega,by omega,by simp;omega⟩
  ·have h':¬i+1<st.length:=by have:=ZS h;rwa [ei] at this
   exact Ok.mk (by dsimp only;omega)
 refine Ok.take h4 (by decide) λr5 m5 _ _ h5=>?_;refine Ok.bind (P:=λp:List QO=>p.length<=4) (Ok.ite (λ_=>Ok.rm (by simp;omega) (Ok.mk (by simp;omega))) (λ_=>Ok.mk (by omega))) λmv2 hmv2=>?_;refine Ok.take h5 (by decide) λr6 m6 _ _ h6=>?_;refine Ok.bind (P:=λp:List QO=>p.length<=5) (Ok.ite (λ_=>Ok.rm (by simp;omega) (Ok.mk (by simp;omega))) (λ_=>Ok.mk (by omega))) λmv3 hmv3=>?_;refine Ok.rm (by simp) ?_;refine Ok.bind (P:=λR:List Qs=>∃n,Qg5 p.1 n R) (Ok.loop (λk s=>0<=s.1/\s.1+k=1+n/\(s.2.1.length<=2/\Qg5 p.1 s.1 s.2.1)/\MOk s.2.2) (1+n).toNat ⟨ZO _,by dsimp only;omega,⟨by simp,[],rfl,by simp,by simp⟩,h6⟩ λk s hs=>?_) (λrs hrs=>?_)
 ·obtain⟨i,rs,m7⟩:=s;obtain⟨e1,e2,e3,e4⟩:=hs;dsimp only at e1 e2 e3 e4;refine Ok.ite (λh=>?_) (λh=>Ok.mk ⟨i,e3.2⟩);simp only[Zf,Zk,en] at h;refine Ok.idx e1 (by omega) λq hq eq=>?_;obtain⟨k1,_,ksn,_⟩:=p2 q hq;have kl:=Qa5 ksn;have k0:1<=q.Xj.length:=by
   unfold QK at ksn;simp only[Zf] at ksn;have:=(Qa1 ksn.1).1;omega
  refine (rule_w e4 (by omega) k0 (by omega)).bind λr hr=>?_;have wk:Qg5 p.1 (i+1) rs:=by obtain⟨ps,g1,g2,g3⟩:=e3.2;exact⟨ps,g1,g2,λz hz=>⟨by have:=(g3 z hz).1;omega,(g3 z hz).2⟩⟩
  refine Ok.bind (P:=λR:List Qs=>R.length<=2/\Qg5 p.1 (i+1) R) (Ok.ite (λhy=>Ok.rm (by simp;omega) (Ok.mk ⟨by simp;omega,?_⟩)) (λ_=>Ok.mk ⟨e3.1,wk⟩)) λrs2 hrs2=>Ok.mk ⟨k - 1,by omega,?_⟩
  ·obtain⟨ps,g1,g2,g3⟩:=e3.2;refine⟨ps++[(i.toNat,r.1)],by rw[ZM,g1];rfl,?_,λz hz=>?_⟩
   ·rw[ZM,pairwise_append];refine⟨g2,by simp,λa ha b hb=>?_⟩;obtain⟨z,hz,rfl⟩:=ZE.1 ha;simp only[Yi,Yx,Zh] at hb;subst hb;have:=(g3 z hz).1;omega
   ·rcases Zs.1 hz with hz | hz
    ·exact⟨by have:=(g3 z hz).1;omega,(g3 z hz).2⟩
    ·rw[Zh] at hz;subst hz;exact⟨by dsimp only;omega,q,eq,hr.1 hy⟩
  ·dsimp only;rw[w64 (n:=i+1) (by omega) (by omega)];exact⟨by omega,by omega,hrs2,hr.2⟩
 ·exact Ok.mk ⟨⟨p4,p5,by dsimp only;omega⟩,⟨_,rfl,rfl⟩,hrs⟩
def QCS {T:List Ks} {i:Nat} {t:Ks} {F:List Sg} (h:T[i]?=some t):(T.set i (t.1,F)).map Prod.fst=T.map Prod.fst:=by
 rw[map_set];refine ext_getElem? λj=>?_;rw[getElem?_set];split
 ·rename_i e;subst e;have hi:i<T.length:=(Zg.1 h).1;rw[Zc (by simpa using hi),ZG,h];rfl
 ·rfl
def Qer.names {T:List Ks} {q:Ks} {T':List Ks} (h:Qer T q T'):T'.map Prod.fst=T.map Prod.fst:=by
 obtain⟨F,by',p1,p2,hp,_⟩:=h;rcases hp with⟨_,_,rfl⟩ | ⟨to,t,cp,pt,ht,_,_,h⟩
 ·rfl
 ·rcases h with⟨_,rfl⟩ | ⟨_,_,rfl⟩
  ·rfl
  ·exact QCS ht
def QbY.names {T:List Ks} (h:QbY T):T.length<=3/\T.map Prod.fst=QiG.take T.length:=by
 induction h with
 | nil=>exact⟨by decide,rfl⟩
 | @snoc T q T' h hl hn hk ih=>
  have e:=hk.names;have el:T'.length=T.length:=by simpa using ZH length e
  rw[Ze,el];refine⟨by simpa using hl,?_⟩;rw[ZM,e,ih.2];simp only[Zj,Zl,Nat.zero_add];rw[take_add_one,hn];rfl
def presN:List (List Str):=[[sId.1],[sId.1,nOf],[sId.1,nOf,(Qi1 []).1],[sId.1,nOf,QhK.1],[sId.1,nOf,(Qi1 []).1,QhK.1]]
def bysN:List (List Str):=[[],[(sBy []).1]]
def QmL:List (List Str):=Qbk.map λp=>p.map Prod.fst
def Qr4 (l d:List Str):Bool:=match d with | []=>true | g::_=>!(l.contains g)
set_option maxRecDepth 100000 in
set_option maxHeartbeats 4000000 in
def Qxl:(presN.all λa=>bysN.all λb=>QmL.all λc=>QmL.all λd=>!Qr4 (a++b++c) d||(decide (a++b++c++d).Nodup&&!((a++b++c++d).contains Qg4)))=true:=by decide+kernel
def PreS.names {T:List Ks} {nm:Str} {F:List Sg} {T':List Ks} (h:PreS T nm F T'):F.map Prod.fst∈presN:=by
 rcases h with⟨_,rfl,_⟩ | ⟨to,t,cp,pt,_,rfl,hc,hp⟩
 ·decide
 ·rcases hc with rfl | ⟨g,_,_,rfl⟩<;>rcases hp with⟨rfl,_⟩ | ⟨_,rfl,_⟩
  ·exact Zq _ (Zn ..)
  ·exact Zq _ (Zq _ (Zq _ (Zn ..)))
  ·exact Zq _ (Zq _ (Zn ..))
  ·exact Zq _ (Zq _ (Zq _ (Zq _ (Zn ..))))
def Qer.nodup {T:List Ks} {q:Ks} {T':List Ks} (h:Qer T q T'):(q.2.map Prod.fst).Nodup/\Qg4∉q.2.map Prod.fst:=by
 obtain⟨F,by',p1,p2,hp,hb,h1,h2,e⟩:=h;have hb':by'.map Prod.fst∈bysN:=by
  rcases hb with rfl | ⟨_,t,_,rfl⟩
  ·exact Zn ..
  ·exact Zq _ (Zn ..)
 have h1':p1.map Prod.fst∈QmL:=ZZ h1;have h2':p2.map Prod.fst∈QmL:=by
  rcases h2 with rfl | ⟨h2,_⟩
  ·decide
  ·exact ZZ h2
 have hf:Qr4 (F.map Prod.fst++by'.map Prod.fst++p1.map Prod.fst) (p2.map Prod.fst)=true:=by
  rcases h2 with rfl | ⟨_,h2⟩
  ·rfl
  ·cases p2 with
   | nil=>rfl
   | cons g r=>unfold Qr4;simp only[Yi,Ym,<-ZM];rw[contains_eq_mem,ZK];intro hm;obtain⟨f,hf,e⟩:=ZE.1 hm;exact h2 g rfl f hf e
 have:=Zu.1 (Zu.1 (Zu.1 (Zu.1 Qxl _ hp.names) _ hb') _ h1') _ h2';rw[hf] at this;simp only[Bool.not_true,Bool.false_or,Zf,Zk,Ym,contains_eq_mem,ZK] at this;rw[e];simp only[ZM];exact this
def Qxm (l:List Sg):Prop:=∃r,l=sId::r/\∀f∈r,f.2.1≠0
def Qpf:(Qbk.all λp=>p.all λf=>decide (f.2.1≠0))=true:=by decide+kernel
def Qlk {p:List Sg} (h:p∈Qbk):∀f∈p,f.2.1≠0:=λf hf=>by have:=Zu.1 (Zu.1 Qpf p h) f hf;simpa using this
def Qer.headed {T:List Ks} {q:Ks} {T':List Ks} (h:Qer T q T'):Qxm q.2:=by
 obtain⟨F,by',p1,p2,hp,hb,h1,h2,e⟩:=h;have hF:∃r,F=sId::r/\∀f∈r,f.2.1≠0:=by
  rcases hp with⟨_,rfl,_⟩ | ⟨to,t,cp,pt,_,rfl,hc,hp⟩
  ·exact⟨[],rfl,by simp⟩
  ·refine⟨_,rfl,λf hf=>?_⟩;rcases Zo.1 hf with rfl | hf
   ·show (1:Int)≠0;decide
   ·rcases Zs.1 hf with hf | hf
    ·rcases hc with rfl | ⟨g,_,_,rfl⟩
     ·cases hf
     ·rw[Zh] at hf;subst hf;show (8:Int)≠0;decide
    ·rcases hp with⟨rfl,_⟩ | ⟨_,rfl,_⟩
     ·cases hf
     ·rw[Zh] at hf;subst hf;show (7:Int)≠0;decide
 obtain⟨r,rfl,hr⟩:=hF;refine⟨r++by'++p1++p2,by rw[e];simp,λf hf=>?_⟩;rcases Zs.1 hf with hf | hf
 ·rcases Zs.1 hf with hf | hf
  ·rcases Zs.1 hf with hf | hf
   ·exact hr f hf
   ·rcases hb with rfl | ⟨_,t,_,rfl⟩
    ·cases hf
    ·rw[Zh] at hf;subst hf;show (1:Int)≠0;decide
  ·exact Qlk h1 f hf
 ·rcases h2 with rfl | ⟨h2,_⟩
  ·cases hf
  ·exact Qlk h2 f hf
def QbY.fields {T:List Ks} (h:QbY T):∀q∈T,(q.2.map Prod.fst).Nodup/\Qxm q.2:=by
 induction h with
 | nil=>intro q hq;cases hq
 | @snoc T q T' h hl hn hk ih=>
  intro z hz;rcases Zs.1 hz with hz | hz
  ·obtain⟨F,by',p1,p2,hp,_⟩:=hk;rcases hp with⟨_,_,rfl⟩ | ⟨to,t,cp,pt,ht,_,_,hp⟩
   ·exact ih z hz
   ·rcases hp with⟨_,rfl⟩ | ⟨hno,_,rfl⟩
    ·exact ih z hz
    ·rcases mem_or_eq_of_mem_set hz with hz | rfl
     ·exact ih z hz
     ·obtain⟨i1,r,i2,i3⟩:=ih t (Zr ht);refine⟨?_,r++[QhL q.1],?_,λf hf=>?_⟩
      ·dsimp only;rw[ZM,nodup_append];refine⟨i1,by simp,λa ha b hb=>?_⟩;obtain⟨g,hg,rfl⟩:=ZE.1 ha;simp only[Yi,Yx,Zh] at hb;subst hb;exact hno g hg
      ·dsimp only;rw[i2];rfl
      ·rcases Zs.1 hf with hf | hf
       ·exact i3 f hf
       ·rw[Zh] at hf;subst hf;show (6:Int)≠0;decide
  ·rw[Zh] at hz;subst hz;exact⟨hk.nodup.1,hk.headed⟩
def QbY.name_at {T:List Ks} (h:QbY T) {i:Nat} {q:Ks} (e:T[i]?=some q):QiG[i]?=some q.1:=by
 have e1:(T.map Prod.fst)[i]?=some q.1:=by rw[ZG,e];rfl
 rw[h.names.2,getElem?_take] at e1;split at e1
 ·exact e1
 ·cases e1
def Qpg:(Qbk.all λp=>p.all λf=>decide (f.2.1≠1))=true:=by decide+kernel
def RefsS (i:Nat) (l:List Sg):Prop:=∀f∈l,f.2.1=1->∃t:Nat,t<i/\QiG[t]?=some f.2.2.1
def Qer.refs {T:List Ks} {q:Ks} {T':List Ks} (c:QbY T) (h:Qer T q T'):RefsS T.length q.2:=by
 have hn:=h.names;obtain⟨F,by',p1,p2,hp,hb,h1,h2,e⟩:=h;have pl:∀{p:List Sg},p∈Qbk->∀f∈p,f.2.1≠1:=λh f hf=>by have:=Zu.1 (Zu.1 Qpg _ h) f hf;simpa using this
 intro f hf hk;rw[e] at hf;rcases Zs.1 hf with hf | hf
 ·rcases Zs.1 hf with hf | hf
  ·rcases Zs.1 hf with hf | hf
   ·rcases hp with⟨_,rfl,_⟩ | ⟨to,t,cp,pt,ht,rfl,hc,hp⟩
    ·rw[Zh] at hf;subst hf;exact absurd hk (by decide)
    ·rcases Zo.1 hf with rfl | hf
     ·exact absurd hk (by decide)
     ·rcases Zo.1 hf with rfl | hf
      ·exact⟨to,(Zg.1 ht).1,c.name_at ht⟩
      ·rcases Zs.1 hf with hf | hf
       ·rcases hc with rfl | ⟨g,_,_,rfl⟩
        ·cases hf
        ·rw[Zh] at hf;subst hf;exact absurd (show (8:Int)=1 from hk) (by decide)
       ·rcases hp with⟨rfl,_⟩ | ⟨_,rfl,_⟩
        ·cases hf
        ·rw[Zh] at hf;subst hf;exact absurd hk (by decide)
   ·rcases hb with rfl | ⟨hl,t,ht,rfl⟩
    ·cases hf
    ·rw[Zh] at hf;subst hf;have e0:T.map Prod.fst=T'.map Prod.fst:=hn.symm;have e1:(T'.map Prod.fst)[0]?=some t.1:=by rw[ZG,ht];rfl
     rw[<-e0,ZG] at e1
     cases h0:T[0]? with
     | none=>rw[h0] at e1;cases e1
     | some z=>rw[h0] at e1;have:=c.name_at h0;exact⟨0,by omega,this.trans e1⟩
  ·exact absurd hk (pl h1 f hf)
 ·rcases h2 with rfl | ⟨h2,_⟩
  ·cases hf
  ·exact absurd hk (pl h2 f hf)
def QbY.refs {T:List Ks} (h:QbY T):∀(i:Nat) (q:Ks),T[i]?=some q->RefsS i q.2:=by
 induction h with
 | nil=>intro i q h;simp at h
 | @snoc T q T' h hl hn hk ih=>
  intro i z hz;have el:T'.length=T.length:=by simpa using ZH length hk.names
  by_cases hi:i<T'.length
  ·rw[ZT hi] at hz;obtain⟨F,by',p1,p2,hp,_⟩:=hk;rcases hp with⟨_,_,rfl⟩ | ⟨to,t,cp,pt,ht,_,_,hp⟩
   ·exact ih i z hz
   ·rcases hp with⟨_,rfl⟩ | ⟨hno,_,rfl⟩
    ·exact ih i z hz
    ·rw[getElem?_set] at hz;split at hz
     ·rename_i e;subst e;split at hz
      ·cases hz;intro f hf hk1;rcases Zs.1 hf with hf | hf
       ·exact ih _ t ht f hf hk1
       ·rw[Zh] at hf;subst hf;exact absurd (show (6:Int)=1 from hk1) (by decide)
      ·cases hz
     ·exact ih i z hz
  ·rw[ZN (by omega)] at hz;have e0:i - T'.length=0:=by
    cases hd:i - T'.length with
    | zero=>rfl
    | succ n=>rw[hd] at hz;simp at hz
   rw[e0] at hz;cases hz;rw[show i=T.length by omega];exact hk.refs h
def Qow:(Qbk.all λp=>p.all λf=>decide (f.2.1≠6/\f.2.1≠7/\f.2.1≠8))=true:=by decide+kernel
def Qer.links {T:List Ks} {q:Ks} {T':List Ks} (h:Qer T q T'):∀f∈q.2,f.2.1≠6/\(f.2.1=7\/f.2.1=8->∃(to:Nat) (t:Ks),T[to]?=some t/\q.2[1]?=some (sOf t.1)/\
  ((f=QhK/\T'[to]?=some (t.1,t.2++[QhL q.1]))\/∃g∈t.2,(g.2.1≠0/\g.2.1≠1/\g.2.1≠6/\g.2.1≠7)/\f=Qi1 g.1)):=by
 obtain⟨F,by',p1,p2,hp,hb,h1,h2,e⟩:=h;have pl:∀{p:List Sg},p∈Qbk->∀f∈p,f.2.1≠6/\f.2.1≠7/\f.2.1≠8:=λh f hf=>by have:=Zu.1 (Zu.1 Qow _ h) f hf;simpa using this
 have no:∀f:Sg,f.2.1≠6/\f.2.1≠7/\f.2.1≠8->f.2.1≠6/\(f.2.1=7\/f.2.1=8->∃(to:Nat) (t:Ks),T[to]?=some t/\q.2[1]?=some (sOf t.1)/\((f=QhK/\T'[to]?=some (t.1,t.2++[QhL q.1]))\/∃g∈t.2,(g.2.1≠0/\g.2.1≠1/\g.2.1≠6/\g.2.1≠7)/\f=Qi1 g.1)):=λf h=>⟨h.1,λh'=>by omega⟩;intro f hf;rw[e] at hf;rcases Zs.1 hf with hf | hf
 ·rcases Zs.1 hf with hf | hf
  ·rcases Zs.1 hf with hf | hf
   ·rcases hp with⟨_,rfl,_⟩ | ⟨to,t,cp,pt,ht,rfl,hc,hp⟩
    ·rw[Zh] at hf;subst hf;exact no _ (by decide)
    ·have h1:q.2[1]?=some (sOf t.1):=by rw[e];rfl
     rcases Zo.1 hf with rfl | hf
     ·exact no _ (by decide)
     ·rcases Zo.1 hf with rfl | hf
      ·exact no _ ⟨show (1:Int)≠6 by decide,show (1:Int)≠7 by decide,show (1:Int)≠8 by decide⟩
      ·rcases Zs.1 hf with hf | hf
       ·rcases hc with rfl | ⟨g,hg,hk,rfl⟩
        ·cases hf
        ·rw[Zh] at hf;subst hf;exact⟨show (8:Int)≠6 by decide,λ_=>⟨to,t,ht,h1,.inr ⟨g,hg,hk,rfl⟩⟩⟩
       ·rcases hp with⟨rfl,_⟩ | ⟨_,rfl,rfl⟩
        ·cases hf
        ·rw[Zh] at hf;subst hf;refine⟨by decide,λ_=>⟨to,t,ht,h1,.inl ⟨rfl,?_⟩⟩⟩;rw[getElem?_set,Zc rfl,Zc (Zg.1 ht).1]
   ·rcases hb with rfl | ⟨_,t,_,rfl⟩
    ·cases hf
    ·rw[Zh] at hf;subst hf;exact no _ ⟨show (1:Int)≠6 by decide,show (1:Int)≠7 by decide,show (1:Int)≠8 by decide⟩
  ·exact no _ (pl h1 f hf)
 ·rcases h2 with rfl | ⟨h2,_⟩
  ·cases hf
  ·exact no _ (pl h2 f hf)
def Qox:Str:=[108,105,102,101]
def QmM (l:List Sg):Prop:=∀(j:Nat) (f:Sg),l[j]?=some f->f.2.1=4->f.2.2.1=[]\/∃(i:Nat) (g:Sg),i<j/\l[i]?=some g/\g.1=f.2.2.1/\g.2.1=4
def Qh4 {α:Type} {l r:List α} {i:Nat} {a:α} (h:l[i]?=some a):(l++r)[i]?=some a:=by rw[ZT (Zg.1 h).1];exact h
def QmM.append {a b:List Sg} (ha:QmM a) (hb:QmM b):QmM (a++b):=by
 intro j f hj hk;by_cases h:j<a.length
 ·rw[ZT h] at hj;rcases ha j f hj hk with h' | ⟨i,g,hi,hg,r⟩
  ·exact .inl h'
  ·exact .inr ⟨i,g,hi,Qh4 hg,r⟩
 ·rw[ZN (by omega)] at hj;rcases hb _ f hj hk with h' | ⟨i,g,hi,hg,r⟩
  ·exact .inl h'
  ·exact .inr ⟨a.length+i,g,by omega,by rw[ZN (by omega),Nat.add_sub_cancel_left];exact hg,r⟩
def QgF {l:List Sg} (h:∀f∈l,f.2.1≠4):QmM l:=λ_ f hj hk=>absurd hk (h f (Zr hj))
def fokB (f:Sg):Bool:=(decide (0<=f.2.1)&&decide (f.2.1<=8))&&((!(f.2.1==5)||f.2.2.1==Qox)&&(!((f.1==nLow||f.1==Qlc)||f.1==QmK)||f.2.1==2))
def LowS (l:List Sg):Prop:=(∃f∈l,f.1=nLow)->∃f∈l,f.1=Qlc
structure Qev (l:List Sg):Prop where
 days:QmM l
 fok:∀f∈l,fokB f=true
 low:LowS l
def Qev.append {a b:List Sg} (ha:Qev a) (hb:Qev b):Qev (a++b) where
 days:=ha.days.append hb.days
 fok f hf:=(Zs.1 hf).elim (ha.fok f) (hb.fok f)
 low:=λ⟨f,hf,e⟩=>by
  rcases Zs.1 hf with hf | hf
  ·obtain⟨g,hg,e⟩:=ha.low ⟨f,hf,e⟩;exact⟨g,mem_append_left _ hg,e⟩
  ·obtain⟨g,hg,e⟩:=hb.low ⟨f,hf,e⟩;exact⟨g,mem_append_right _ hg,e⟩
def QjT:Qev []:=⟨QgF (by simp),by simp,λ⟨_,h,_⟩=>by cases h⟩
def Qhr {f:Sg} (h4:f.2.1≠4) (hf:fokB f=true) (hl:f.1≠nLow):Qev [f]:=by
 refine⟨QgF λg hg=>?_,λg hg=>?_,λ⟨g,hg,e⟩=>?_⟩<;>rw[Zh] at hg<;>subst hg
 ·exact h4
 ·exact hf
 ·exact absurd e hl
def QuL:(Qbk.all λp=>p.all fokB)=true:=by decide+kernel
def Qmd:∀p∈Qbk,Qev p:=by
 intro p hp;refine⟨?_,Zu.1 (Zu.1 QuL p hp),?_⟩
 ·simp only[Qbk,Zo,Zw,ZI] at hp;rcases hp with rfl | rfl | rfl | rfl | rfl | rfl
  ·exact QgF (by simp)
  ·exact QgF (by decide)
  ·exact QgF (by decide)
  ·intro j f hj _
   match j,hj with
   | 0,hj=>cases hj;exact .inl rfl
   | 1,hj=>cases hj;exact .inr ⟨0,QuK,by decide,rfl,rfl,rfl⟩
  ·exact QgF (by decide)
  ·exact QgF (by decide)
 ·have key:(Qbk.all λp=>!(p.any λf=>f.1==nLow)||(p.any λf=>f.1==Qlc))=true:=by decide+kernel
  have:=Zu.1 key p hp;rintro ⟨f,hf,e⟩;have h1:(p.any λf=>f.1==nLow)=true:=Yo.2 ⟨f,hf,by simpa using e⟩;rw[h1] at this;obtain⟨g,hg,e⟩:=Yo.1 (show (p.any λf=>f.1==Qlc)=true by simpa using this);exact⟨g,hg,by simpa using e⟩
def Qer.piece {T:List Ks} {q:Ks} {T':List Ks} (h:Qer T q T'):Qev q.2:=by
 obtain⟨F,by',p1,p2,hp,hb,h1,h2,e⟩:=h;rw[e];have o1:Qev [sId]:=Qhr (by decide) (by decide) (by decide);refine ((Qev.append ?_ ?_).append (Qmd p1 h1)).append (h2.elim (λh=>h▸QjT) λh=>Qmd p2 h.1)
 ·rcases hp with⟨_,rfl,_⟩ | ⟨to,t,cp,pt,_,rfl,hc,hp⟩
  ·exact o1
  ·refine o1.append (b:=sOf t.1::(cp++pt)) ((Qhr (f:=sOf t.1) (show (1:Int)≠4 by decide) rfl (show nOf≠nLow by decide)).append (b:=cp++pt) (Qev.append ?_ ?_))
   ·rcases hc with rfl | ⟨g,_,_,rfl⟩
    ·exact QjT
    ·exact Qhr (show (8:Int)≠4 by decide) rfl (show ([115,97,109,101]:Str)≠nLow by decide)
   ·rcases hp with⟨rfl,_⟩ | ⟨_,rfl,_⟩
    ·exact QjT
    ·exact Qhr (by decide) (by decide) (by decide)
 ·rcases hb with rfl | ⟨_,t,_,rfl⟩
  ·exact QjT
  ·exact Qhr (show (1:Int)≠4 by decide) rfl (show ([98,121]:Str)≠nLow by decide)
def Right (h:Sg):Prop:=h.2.1≠0/\h.2.1≠1/\h.2.1≠6/\h.2.1≠7
structure FInv (T:List Ks) (k:Nat) (q:Ks):Prop where
 piece:Qev q.2
 k7:∀f∈q.2,f.2.1=7->f=QhK/\∃(to:Nat) (t:Ks),to<k/\T[to]?=some t/\q.2[1]?=some (sOf t.1)/\QhL q.1∈t.2
 k8:∀f∈q.2,f.2.1=8->∃(n:Str) (to:Nat) (t:Ks),f=Qi1 n/\to<k/\T[to]?=some t/\q.2[1]?=some (sOf t.1)/\∃h∈t.2,h.1=n/\Right h
 k6:∀f∈q.2,f.2.1=6->∃(o:Nat) (p:Ks),f=QhL p.1/\k<o/\T[o]?=some p/\QhK∈p.2/\p.2[1]?=some (sOf q.1)
def Ext (T U:List Ks):Prop:=∀(i:Nat) (t:Ks),T[i]?=some t->∃r,U[i]?=some (t.1,t.2++r)
def FInv.ext {T U:List Ks} {k:Nat} {q:Ks} (e:Ext T U) (h:FInv T k q):FInv U k q where
 piece:=h.piece
 k7 f hf hk:=by obtain⟨e1,to,t,h1,h2,h3,h4⟩:=h.k7 f hf hk;obtain⟨r,hr⟩:=e to t h2;exact⟨e1,to,_,h1,hr,h3,mem_append_left _ h4⟩
 k8 f hf hk:=by obtain⟨n,to,t,e1,h1,h2,h3,g,h4,h5⟩:=h.k8 f hf hk;obtain⟨r,hr⟩:=e to t h2;exact⟨n,to,_,e1,h1,hr,h3,g,mem_append_left _ h4,h5⟩
 k6 f hf hk:=by obtain⟨o,p,e1,h1,h2,h3,h4⟩:=h.k6 f hf hk;obtain⟨r,hr⟩:=e o p h2;exact⟨o,(p.1,p.2++r),e1,h1,hr,mem_append_left _ h3,Qh4 h4⟩
def FInv.total {U:List Ks} {k o:Nat} {t p:Ks} (h:FInv U k t) (h1:k<o) (h2:U[o]?=some p) (h3:QhK∈p.2) (h4:p.2[1]?=some (sOf t.1)):FInv U k (t.1,t.2++[QhL p.1]) where
 piece:=h.piece.append (Qhr (show (6:Int)≠4 by decide) rfl (show Qg4≠nLow by decide))
 k7 f hf hk:=by
  rcases Zs.1 hf with hf | hf
  ·obtain⟨e1,to,t',g1,g2,g3,g4⟩:=h.k7 f hf hk;exact⟨e1,to,t',g1,g2,Qh4 g3,g4⟩
  ·rw[Zh] at hf;subst hf;exact absurd (show (6:Int)=7 from hk) (by decide)
 k8 f hf hk:=by
  rcases Zs.1 hf with hf | hf
  ·obtain⟨n,to,t',e1,g1,g2,g3,g⟩:=h.k8 f hf hk;exact⟨n,to,t',e1,g1,g2,Qh4 g3,g⟩
  ·rw[Zh] at hf;subst hf;exact absurd (show (6:Int)=8 from hk) (by decide)
 k6 f hf hk:=by
  rcases Zs.1 hf with hf | hf
  ·exact h.k6 f hf hk
  ·rw[Zh] at hf;exact⟨o,p,hf,h1,h2,h3,h4⟩
def Ext.self (T:List Ks):Ext T T:=λ_ t h=>⟨[],by rw[Yj];exact h⟩
def Ext.app {T U:List Ks} (r:List Ks) (h:Ext T U):Ext T (U++r):=λi t e=>by obtain⟨s,hs⟩:=h i t e;exact⟨s,Qh4 hs⟩
def Ext.set {T:List Ks} {i:Nat} {t:Ks} (s:List Sg) (h:T[i]?=some t):Ext T (T.set i (t.1,t.2++s)):=λj u e=>by
 rw[getElem?_set];split
 ·rename_i ej;subst ej;rw[Zc (Zg.1 h).1];rw[h] at e;cases e;exact⟨s,rfl⟩
 ·exact⟨[],by rw[Yj];exact e⟩
def Qer.ext {T:List Ks} {q:Ks} {T':List Ks} (h:Qer T q T'):Ext T T':=by
 obtain⟨F,by',p1,p2,hp,_⟩:=h;rcases hp with⟨_,_,rfl⟩ | ⟨to,t,cp,pt,ht,_,_,hp⟩
 ·exact Ext.self _
 ·rcases hp with⟨_,rfl⟩ | ⟨_,_,rfl⟩
  ·exact Ext.self _
  ·exact Ext.set _ ht
def Qer.old {T:List Ks} {q:Ks} {T':List Ks} (h:Qer T q T') {i:Nat} {u:Ks} (e:T'[i]?=some u):T[i]?=some u\/∃t,T[i]?=some t/\u=(t.1,t.2++[QhL q.1])/\QhK∈q.2/\q.2[1]?=some (sOf t.1):=by
 obtain⟨F,by',p1,p2,hp,_,_,_,eq⟩:=h;rcases hp with⟨_,_,rfl⟩ | ⟨to,t,cp,pt,ht,rfl,_,hp⟩
 ·exact .inl e
 ·rcases hp with⟨_,rfl⟩ | ⟨_,rfl,rfl⟩
  ·exact .inl e
  ·rw[getElem?_set] at e;split at e
   ·rename_i ei;subst ei;rw[Zc (Zg.1 ht).1] at e;cases e;refine .inr ⟨t,ht,rfl,?_,?_⟩
    ·rw[eq];simp
    ·rw[eq];rfl
   ·exact .inl e
def QbY.inv {T:List Ks} (h:QbY T):∀(k:Nat) (q:Ks),T[k]?=some q->FInv T k q:=by
 induction h with
 | nil=>intro k q h;simp at h
 | @snoc T q T' h hl hn hk ih=>
  intro k z hz;have el:T'.length=T.length:=by simpa using ZH length hk.names
  have e1:Ext T (T'++[q]):=hk.ext.app [q];have hq:(T'++[q])[T'.length]?=some q:=by simp
  by_cases hi:k<T'.length
  ·rw[ZT hi] at hz;rcases hk.old hz with h0 | ⟨t,h0,rfl,h1,h2⟩
   ·exact (ih k z h0).ext e1
   ·exact ((ih k t h0).ext e1).total hi hq h1 h2
  ·rw[ZN (by omega)] at hz;have e0:k - T'.length=0:=by
    cases hd:k - T'.length with
    | zero=>rfl
    | succ n=>rw[hd] at hz;simp at hz
   rw[e0] at hz;cases hz;have hkk:k=T.length:=by omega
   refine⟨hk.piece,λf hf hf7=>?_,λf hf hf8=>?_,λf hf hf6=>absurd hf6 (hk.links f hf).1⟩
   ·obtain⟨to,t,ht,h1,h2⟩:=(hk.links f hf).2 (.inl hf7);have hto:=(Zg.1 ht).1;rcases h2 with⟨rfl,h2⟩ | ⟨g,_,_,rfl⟩
    ·exact⟨rfl,to,_,by omega,Qh4 h2,h1,mem_append_right _ (mem_singleton_self _)⟩
    ·exact absurd (show (8:Int)=7 from hf7) (by decide)
   ·obtain⟨to,t,ht,h1,h2⟩:=(hk.links f hf).2 (.inr hf8);have hto:=(Zg.1 ht).1;rcases h2 with⟨rfl,h2⟩ | ⟨g,hg,hr,rfl⟩
    ·exact absurd hf8 (by decide)
    ·obtain⟨r,hr'⟩:=e1 to t ht;exact⟨g.1,to,_,rfl,by omega,hr',h1,g,mem_append_left _ hg,rfl,hr⟩
section
variable {L:List Qi} {W:List Int} (hv:∀y∈L,VL y (W.length:Int)/\y.B<y.A)
include hv
end
structure CleanS (x:Qb):Prop where
 short:QcZ x
 clean:Q0 x=[]
 few:x.Xa.length<=3
 narrow:∀k∈x.Xa,k.Hi - k.Lo<=29
def Qm1 {α:Type} {s:List α} {f:α->Str} (hn:(s.map f).Nodup) {k:Nat} {a:α} (h:s[k]?=some a):QaJ s (λb=>f b==f a)=(k:Int):=by
 unfold QaJ;obtain⟨hk,e⟩:=Zg.1 h;have:s.findIdx? (λb=>f b==f a)=some k:=by rw[ZD];refine⟨hk,by rw[e];simp,λj hj=>?_⟩;have:=pairwise_iff_getElem.1 hn j k (by simp;omega) (by simpa using hk) hj;rw[getElem_map,getElem_map,e] at this;simpa using this
 rw[this]
section
variable {x:Qb}
def QeL (hC:QbY (x.Xa.map ks)) {k:Nat} {t:Ks} (h:(x.Xa.map ks)[k]?=some t):∃q,x.Xa[k]?=some q/\ks q=t/\QQ x t.1=(k:Int):=by
 rw[ZG] at h;obtain⟨q,hq,rfl⟩:=Yr.1 h;have e:(x.Xa.map ks).map Prod.fst=x.Xa.map Qg.Xj:=by rw[Yw];rfl
 have hn:(x.Xa.map Qg.Xj).Nodup:=by rw[<-e,hC.names.2];exact List.Nodup.sublist (take_sublist _ _) (by decide)
 exact⟨q,hq,rfl,Qm1 hn hq⟩
def Qdo {q:Qg} (hn:((ks q).2.map Prod.fst).Nodup) {j:Nat} {g:Sg} (h:(ks q).2[j]?=some g):∃f,q.Xb[j]?=some f/\sg f=g/\Q2 q g.1=(j:Int):=by unfold ks at h hn;dsimp only at h hn;rw[ZG] at h;obtain⟨f,hf,rfl⟩:=Yr.1 h;rw[Yw] at hn;exact⟨f,hf,rfl,Qm1 (f:=Qc.Xj) hn hf⟩
def Qhs {k j:Nat} {q:Qg} {f:Qc} (hq:x.Xa[k]?=some q) (hf:q.Xb[j]?=some f):field? x (k:Int) (j:Int)=some f:=Qfz (by omega) (by omega) (by rw[QbS];exact hq) (by rw[QbS];exact hf)
def QjA (_:QbY (x.Xa.map ks)) {k:Nat} {q:Qg} (hq:x.Xa[k]?=some q):(x.Xa.map ks)[k]?=some (ks q):=by rw[ZG,hq];rfl
def QuM (hC:QbY (x.Xa.map ks)) {k j to:Nat} {q:Qg} {f:Qc} {t:Ks} (hq:x.Xa[k]?=some q) (hf:q.Xb[j]?=some f) (hk:f.Xi=7\/f.Xi=8) (hu:f.Up=nOf)
  (h1:(ks q).2[1]?=some (sOf t.1)) (ht:(x.Xa.map ks)[to]?=some t) (hto:to<k):upIx x (k:Int) (j:Int)=(to:Int):=by
 obtain⟨hn,r,hr,_⟩:=hC.fields _ (Zr (QjA hC hq));obtain⟨g,hg,eg,e1⟩:=Qdo hn h1;obtain⟨qt,hqt,rfl,e2⟩:=QeL hC ht;have hs:(ks q).2[j]?=some (sg f):=by unfold ks;dsimp only;rw[ZG,hf];rfl
 have hj:1<j:=by
  rcases Nat.lt_or_ge 1 j with h | h
  ·exact h
  ·have:j=0\/j=1:=by omega
   rcases this with rfl | rfl
   ·rw[hr] at hs;have e0:sId=sg f:=Zt hs;have:sId.2.1=f.Xi:=by rw[e0];rfl
    have h0:sId.2.1=0:=rfl;omega
   ·rw[h1] at hs;have e0:sOf (ks qt).1=sg f:=Zt hs;have:(sOf (ks qt).1).2.1=f.Xi:=by rw[e0];rfl
    have h0:(sOf (ks qt).1).2.1=1:=rfl;omega
 have gk:g.Xi=1:=ZH (λs:Sg=>s.2.1) eg;have go:g.Of=(ks qt).1:=ZH (λs:Sg=>s.2.2.1) eg;have e1':Q2 q nOf=1:=e1;unfold upIx;rw[Qhs hq hf];dsimp only;rw[Zc hk,QbS,hq];dsimp only;have hg1:field? x (k:Int) 1=some g:=Qhs (j:=1) hq hg;rw[hu,e1',Zc (by omega),hg1];dsimp only;rw[Zc gk];unfold QgO;rw[go,e2,Zc (by omega)]
def Qxn {k j to i:Nat} {qt:Qg} {f g:Qc} (hu:upIx x (k:Int) (j:Int)=(to:Int)) (hqt:x.Xa[to]?=some qt) (hg:qt.Xb[i]?=some g) (hi:Q2 qt f.Of=(i:Int)):topS x (k:Int) (j:Int) f=(g,true):=by unfold topS;rw[hu,Zd (by omega),QbS,hqt];dsimp only;rw[hi,Qhs hqt hg]
def Qr5 (p:Nat->Bool) (a:Nat):∀n,a<n->p a=true->(∀i,i<n->p i=true->i=a)->((range n).filter p).length=1
 | 0,h,_,_=>by omega
 | n+1,h,ha,hu=>by
  rw[Yl,filter_append,Ze];by_cases e:a=n
  ·subst e;have h0:(range a).filter p=[]:=by
    rw[filter_eq_nil_iff];intro i hi hp;have hi':=ZP.1 hi;have:=hu i (by omega) hp;omega
   rw[h0];simp[ha]
  ·have h1:=Qr5 p a n (by omega) ha λi hi hp=>hu i (by omega) hp;have h2:p n=false:=by
    cases hp:p n with
    | false=>rfl
    | true=>exact absurd (hu n (by omega) hp).symm e
   rw[h1];simp[h2]
def fst0 {a:Bool} {c:Int} {r:List Qab} (ha:a=false) (hr:QaR r=0):QaR (⟨a,c⟩::r)=0:=by subst ha;exact hr
def QCT (hC:QbY (x.Xa.map ks)) {k:Nat} {q:Qg} (hq:x.Xa[k]?=some q) {i j:Nat} {f g:Qc} (hi:q.Xb[i]?=some f) (hj:q.Xb[j]?=some g) (e:f.Xj=g.Xj):i=j:=by
 obtain⟨hn,_⟩:=hC.fields _ (Zr (QjA hC hq));have s1:(ks q).2[i]?=some (sg f):=by unfold ks;dsimp only;rw[ZG,hi];rfl
 have s2:(ks q).2[j]?=some (sg g):=by unfold ks;dsimp only;rw[ZG,hj];rfl
 obtain⟨_,_,_,e1⟩:=Qdo hn s1;obtain⟨_,_,_,e2⟩:=Qdo hn s2;have:Q2 q (sg f).1=Q2 q (sg g).1:=ZH _ e;omega
def QuN (hC:QbY (x.Xa.map ks)) (hL:∃L,x.Xd=[L]/\L.Xj=Qox) {k j:Nat} {q:Qg} {f:Qc} (hq:x.Xa[k]?=some q) (hf:q.Xb[j]?=some f):QgP x q (k:Int) (j:Int) f=0:=by
 have hsg:=QjA hC hq;obtain⟨hn,hd⟩:=hC.fields _ (Zr hsg);have inv:=hC.inv k _ hsg;have hs:(ks q).2[j]?=some (sg f):=by unfold ks;dsimp only;rw[ZG,hf];rfl
 have hm:=Zr hs;have fk:(sg f).2.1=f.Xi:=rfl;unfold QgP;by_cases c0:f.Xi=0
 ·rw[Zc c0];refine fst0 ?_ rfl;obtain⟨r,hr,hr0⟩:=hd
  match j,hs with
  | 0,_=>rfl
  | j+1,hs=>rw[hr,getElem?_cons_succ] at hs;exact absurd c0 (hr0 _ (Zr hs))
 rw[Zd c0];by_cases c1:f.Xi=1
 ·rw[Zc c1];refine fst0 ?_ rfl;obtain⟨t,ht,et⟩:=hC.refs k _ hsg (sg f) hm c1;have hkl:=(Zg.1 hsg).1;have htl:t<(x.Xa.map ks).length:=by omega
  have ht2:=Zb htl;have e3:=hC.name_at ht2;rw[et] at e3;obtain⟨_,_,_,e2⟩:=QeL hC ht2;rw[<-Zt e3] at e2;have e4:QQ x f.Of=(t:Int):=e2;have eu:upIx x (k:Int) (j:Int)=(t:Int):=by unfold upIx;rw[Qhs hq hf];dsimp only;rw[Zd (by omega),Zc c1];unfold QgO;rw[e4,Zc (by omega)]
  rw[eu];simp
 rw[Zd c1];by_cases c4:f.Xi=4
 ·rw[Zc c4];refine fst0 ?_ rfl;rcases inv.piece.days j _ hs c4 with h | ⟨i,g,hi,hg,e1,e2⟩
  ·have h':f.Of=[]:=h;rw[h'];rfl
  ·obtain⟨g',hg',rfl,e3⟩:=Qdo hn hg;have e4:Q2 q f.Of=(i:Int):=by
    have:(sg f).2.2.1=f.Of:=rfl;rw[<-this,<-e1];exact e3
   have gk:g'.Xi=4:=e2;rw[e4,Qhs hq hg'];dsimp only;rw[gk];rw[show decide ((i:Int)<0)=false by simp,show decide ((i:Int)>=(j:Int))=false by simp;omega];simp
 rw[Zd c4];by_cases c5:f.Xi=5
 ·rw[Zc c5];refine fst0 ?_ rfl;obtain⟨L,hL,hLn⟩:=hL;have h:=inv.piece.fok _ hm;unfold fokB at h;simp only[Zf] at h;have h2:=h.2.1;rw[fk,c5] at h2;have h3:f.Of=Qox:=by simpa[sg] using h2
  rw[hL,h3];simp[hLn]
 rw[Zd c5];by_cases c6:f.Xi=6
 ·rw[Zc c6];obtain⟨o,p,ef,ho,hp,hpart,h1⟩:=inv.k6 _ hm c6;obtain⟨qo,hqo,rfl,eo⟩:=QeL hC hp;have efo:f.Of=(ks qo).1:=ZH (λs:Sg=>s.2.2.1) ef;have efn:f.Xj=Qg4:=ZH (λs:Sg=>s.1) ef;have es:Qia x (k:Int) f=((o:Int),shl x (o:Int) (k:Int) f.Xj):=by
   unfold Qia;rw[efo,eo,Zd (by omega)]
  have hno:=(hC.fields _ (Zr hp)).1;obtain⟨jp,hjp⟩:=Yg.1 hpart;obtain⟨g,hg,eg,_⟩:=Qdo hno hjp;have gk:g.Xi=7:=ZH (λs:Sg=>s.2.1) eg;have go:g.Of=Qg4:=ZH (λs:Sg=>s.2.2.1) eg;have gu:g.Up=nOf:=ZH (λs:Sg=>s.2.2.2) eg;have gn:g.Xj=QhK.1:=ZH (λs:Sg=>s.1) eg;have hl:(shl x (o:Int) (k:Int) f.Xj).length=1:=by
   unfold shl;rw[QbS,hqo];dsimp only;rw[Zz];refine Qr5 _ jp _ (Zg.1 hg).1 ?_ λi hi hsh=>?_
   ·unfold QgC;rw[hg];dsimp only;rw[gk,go,efn,QuM hC hqo hg (.inl gk) gu h1 hsg ho];simp
   ·unfold QgC at hsh;rw[Zb hi] at hsh;simp only[Zf,Yd] at hsh;have hi':=Zb hi;have hs2:(ks qo).2[i]?=some (sg qo.Xb[i]):=by unfold ks;dsimp only;rw[ZG,hi'];rfl
    obtain⟨e7,_⟩:=(hC.inv o _ hp).k7 _ (Zr hs2) hsh.1.1;refine QCT hC hqo hi' hg ?_;rw[gn];exact ZH (λs:Sg=>s.1) e7
  rw[es];refine fst0 (by simp) (fst0 ?_ rfl);dsimp only;rw[hl];rfl
 rw[Zd c6];by_cases c7:f.Xi=7
 ·rw[Zc c7];obtain⟨ef,to,t,hto,ht,h1,hT⟩:=inv.k7 _ hm c7;have efo:f.Of=Qg4:=ZH (λs:Sg=>s.2.2.1) ef;have efu:f.Up=nOf:=ZH (λs:Sg=>s.2.2.2) ef;have hu:=QuM hC hq hf (.inl c7) efu h1 ht hto;obtain⟨qt,hqt,rfl,_⟩:=QeL hC ht;have hnt:=(hC.fields _ (Zr ht)).1;obtain⟨i,hi⟩:=Yg.1 hT;obtain⟨g,hg,eg,e3⟩:=Qdo hnt hi;have gk:g.Xi=6:=ZH (λs:Sg=>s.2.1) eg;have go:g.Of=(ks q).1:=ZH (λs:Sg=>s.2.2.1) eg;have ht:=Qxn (f:=f) hu hqt hg (by rw[efo];exact e3);obtain⟨_,_,_,ek⟩:=QeL hC hsg;rw[ht,hu];refine fst0 (by simp) (fst0 ?_ rfl);dsimp only;rw[gk,go,ek];simp
 rw[Zd c7];by_cases c8:f.Xi=8
 ·rw[Zc c8];obtain⟨n,to,t,ef,hto,ht,h1,h,hh,hn8,hr⟩:=inv.k8 _ hm c8;have efo:f.Of=n:=ZH (λs:Sg=>s.2.2.1) ef;have efu:f.Up=nOf:=ZH (λs:Sg=>s.2.2.2) ef;have hu:=QuM hC hq hf (.inr c8) efu h1 ht hto;have invt:=hC.inv to _ ht;obtain⟨qt,hqt,rfl,_⟩:=QeL hC ht;have hnt:=(hC.fields _ (Zr ht)).1;obtain⟨i,hi⟩:=Yg.1 hh;obtain⟨g,hg,eg,e3⟩:=Qdo hnt hi;have ht:=Qxn (f:=f) hu hqt hg (by rw[efo,<-hn8];exact e3);rw[ht,hu];refine fst0 (by simp) (fst0 ?_ rfl);have hf8:=invt.piece.fok _ hh;unfold fokB at hf8;simp only[Zf,Zk] at hf8;obtain⟨r1,r2,r3,r4⟩:=hr;have gk:g.Xi=h.2.1:=ZH (λs:Sg=>s.2.1) eg;have:g.Xi=2\/g.Xi=3\/g.Xi=4\/g.Xi=5\/g.Xi=8:=by omega
  unfold Qro;rcases this with e | e | e | e | e<;>rw[e]<;>rfl
 rw[Zd c8]
def QhM (hC:QbY (x.Xa.map ks)) {k:Nat} {q:Qg} (hq:x.Xa[k]?=some q) {n:Str} (h:∃g∈(ks q).2,g.1=n) (hn:(n=nLow\/n=Qlc)\/n=QmK):QbP x (k:Int) n=false/\QbQ x (k:Int) n=false:=by
 have hsg:=QjA hC hq;obtain⟨hnd,_⟩:=hC.fields _ (Zr hsg);obtain⟨g,hg,rfl⟩:=h;have hf:=(hC.inv k _ hsg).piece.fok _ hg;obtain⟨i,hi⟩:=Yg.1 hg;obtain⟨f,hf',eg,e3⟩:=Qdo hnd hi;have e:Qix x (k:Int) g.1=(f,true):=by unfold Qix;rw[QbS,hq];dsimp only;rw[e3,Qhs hq hf']
 have fk:f.Xi=2:=by
  have gk:f.Xi=g.2.1:=ZH (λs:Sg=>s.2.1) eg;unfold fokB at hf;simp only[Zf] at hf;have h2:=hf.2.2;have h3:((g.1==nLow||g.1==Qlc)||g.1==QmK)=true:=by simpa[or_assoc] using hn
  rw[h3] at h2;rw[gk];simpa using h2
 unfold QbP QbQ;rw[e];dsimp only;rw[fk];simp
def Qr6 (k:Int):QbP x k []=false/\QbQ x k []=false:=⟨rfl,rfl⟩
def QuO (hC:QbY (x.Xa.map ks)) {n:Int} (hR:Qg5 x.Xa n x.Xc) {i:Nat} {r:Qs} (hr:x.Xc[i]?=some r):QhG x i r=0:=by
 obtain⟨ps,e1,e2,e3⟩:=hR;have nm:∀(j:Nat) (s:Qs),x.Xc[j]?=some s->∃kk,(ps.map Prod.fst)[j]?=some kk/\∃q,x.Xa[kk]?=some q/\Qld (ks q) s:=λj s hs=>by rw[<-e1,ZG] at hs;obtain⟨p,hp,rfl⟩:=Yr.1 hs;obtain⟨_,q,hq,h⟩:=e3 p (Zr hp);exact⟨p.1,by rw[ZG,hp];rfl,q,hq,h⟩
 obtain⟨kk,hkk,q,hq,hrule⟩:=nm i r hr;obtain⟨hrk,⟨pr,hpr⟩,hcase⟩:=hrule;have hsg:=QjA hC hq;obtain⟨_,_,_,ek⟩:=QeL hC hsg;have ek':QQ x r.Xi=(kk:Int):=by rw[hrk];exact ek
 have hlow:=(hC.inv kk _ hsg).piece.low;have h2:(QbP x (kk:Int) r.A=false/\QbQ x (kk:Int) r.A=false)/\(QbP x (kk:Int) r.B=false/\QbQ x (kk:Int) r.B=false)/\(r.A==r.B)=false:=by
  rcases hcase with⟨ea,eb,hg⟩ | ⟨hg,⟨ea,eb⟩ | ⟨ea,eb⟩⟩
  ·rw[ea,eb];exact⟨QhM hC hq hg (.inl (.inl rfl)),QhM hC hq (hlow hg) (.inl (.inr rfl)),by decide⟩
  ·rw[ea,eb];exact⟨QhM hC hq hg (.inr rfl),Qr6 _,by decide⟩
  ·rw[ea,eb];exact⟨Qr6 _,QhM hC hq hg (.inr rfl),by decide⟩
 obtain⟨⟨a1,a2⟩,⟨b1,b2⟩,ab⟩:=h2;unfold QhG;rw[ek',a1,a2,b1,b2,ab];refine fst0 ?_ (fst0 (by simp) (fst0 rfl (fst0 rfl rfl)));rw[any_eq_false];intro s hs;obtain⟨j,hj⟩:=Yg.1 hs;rw[getElem?_take] at hj;split at hj
 ·rename_i hji;obtain⟨k2,hk2,q2,hq2,_,⟨ps2,hps2⟩,_⟩:=nm j s hj;obtain⟨l1,g1⟩:=Zg.1 hk2;obtain⟨l2,g2⟩:=Zg.1 hkk;have hlt:=pairwise_iff_getElem.1 e2 j i l1 l2 hji;rw[g1,g2] at hlt;have n1:=hC.name_at hsg;have n2:=hC.name_at (QjA hC hq2);have hl:(x.Xa.map ks).length<=3:=hC.names.1;have hk3:=(Zg.1 hsg).1;intro e;have e':s.Xj=r.Xj:=by simpa using e
  rw[hps2,hpr] at e';have key:∀a b:Nat,a<b->b<3->∀u v:Str,QiG[a]?=some u->QiG[b]?=some v->(u.take 1).length=(v.take 1).length/\u.take 1≠v.take 1:=by
   intro a b hab hb u v hu hv;have:(a=0/\b=1)\/(a=0/\b=2)\/(a=1/\b=2):=by omega
   rcases this with⟨rfl,rfl⟩ | ⟨rfl,rfl⟩ | ⟨rfl,rfl⟩<;>cases hu<;>cases hv<;>decide
  obtain⟨m1,m2⟩:=key k2 kk hlt (by omega) _ _ n2 n1;exact m2 (append_inj' e' m1).2
 ·cases hj
def QjU {k j r e:Int} (h:e=0):prob k j r e=[]:=Zc h
def QsI (hC:QbY (x.Xa.map ks)) (hL:∃L,x.Xd=[L]/\L.Xj=Qox) {n:Int} (hR:Qg5 x.Xa n x.Xc) (hv:Qep x=0):Q0 x=[]:=by
 unfold Q0;rw[Zc hv];have h1:Qc1 x=[]:=by
  obtain⟨L,hL,_⟩:=hL;unfold Qc1;rw[flatMap_eq_nil_iff];intro i hi;have hi':=ZP.1 hi;rw[hL] at hi';have:i=0:=by simpa using hi'
  subst this;unfold QfC;rw[hL];exact QjU rfl
 have h2:Qfi x=[]:=by
  unfold Qfi;rw[flatMap_eq_nil_iff];intro i hi;unfold QeJ
  cases hq:x.Xa[i]? with
  | none=>rfl
  | some q=>
   dsimp only;have hsg:=QjA hC hq;obtain⟨hn,r,hr,_⟩:=hC.fields _ (Zr hsg);obtain⟨_,_,_,ek⟩:=QeL hC hsg;rw[QjU,Yf]
   ·unfold Qi8;rw[flatMap_eq_nil_iff];intro j hj;unfold QfV
    cases hf:q.Xb[j]? with
    | none=>rfl
    | some f=>
     refine QjU ?_;unfold Qiy;have hs:(ks q).2[j]?=some (sg f):=by unfold ks;dsimp only;rw[ZG,hf];rfl
     obtain⟨_,_,_,e1⟩:=Qdo hn hs;have e2:Q2 q f.Xj=(j:Int):=e1;rw[e2,Zd (by omega)];exact QuN hC hL hq hf
   ·unfold Qha;have ek':QQ x q.Xj=(i:Int):=ek;refine fst0 (by rw[ek'];simp) (fst0 ?_ rfl);unfold ks at hr;dsimp only at hr
    cases hq2:q.Xb with
    | nil=>rw[hq2] at hr;cases hr
    | cons f fs=>rw[hq2,Yi] at hr;have e0:sg f=sId:=(List.cons.inj hr).1;have:f.Xi=0:=ZH (λs:Sg=>s.2.1) e0;simp[this];omega
 have h3:Qoe x=[]:=by
  unfold Qoe;rw[flatMap_eq_nil_iff];intro i hi;unfold Qid
  cases hr:x.Xc[i]? with
  | none=>rfl
  | some r=>exact QjU (QuO hC hR hr)
 rw[h1,h2,h3];rfl
end
structure GenS (x:Qb):Prop where
 sz:Sz x
 tiny:Tiny x
 valid:Qeo x=true
 chain:QbY (x.Xa.map ks)
 narrow:∀k∈x.Xa,k.Hi - k.Lo<=29
 pos:1<=x.Xa.length
 life:∃L,x.Xd=[L]/\L.Xj=Qox
 rules:∃n,Qg5 x.Xa n x.Xc
def GenS.clean {x:Qb} (h:GenS x):CleanS x:=by obtain⟨n,hR⟩:=h.rules;exact⟨h.sz.short,QsI h.chain h.life hR (QuJ h.tiny h.valid),h.tiny.kinds,h.narrow⟩
def QuP {l:List Int} (hl:∀x∈l,I64 x):Ok (Qb7 l) GenS:=by refine (Ok.and (Qws hl) (Ok.and (Qzj hl) (Qzk hl))).Xp λx hx=>?_;obtain⟨h1,⟨h2,h3,h4⟩,⟨h5,h6,h9⟩,h7,h8⟩:=hx;exact⟨h1.sz (by decide),h2,h3,h5,h6,h9,h7,h8⟩
structure FR (B:Int) (f g:Qc):Prop where
 name:g.Xj=f.Xj
 of:g.Of=f.Of
 up:g.Up=f.Up
 kind:g.Xi=f.Xi
 words:g.Words=f.Words
 weights:g.Xf=f.Xf
 ref:f.Xi=1->0<=g.Lo/\g.Lo<=g.Hi/\g.Hi<=B
 num:f.Xi=2\/f.Xi=4->-1048576<=g.Lo/\g.Lo<=g.Hi/\g.Hi<=1048576
 same:f.Xi≠1->f.Xi≠2->f.Xi≠4->g=f
def FsR (B:Int) (a b:List Qc):Prop:=b.length=a.length/\∀(j:Nat) (f:Qc),a[j]?=some f->∃g,b[j]?=some g/\FR B f g
structure KR (B:Int) (k q:Qg):Prop where
 name:q.Xj=k.Xj
 span:0<=q.Lo/\q.Lo<=q.Hi/\q.Hi<=B
 fields:FsR B k.Xb q.Xb
def KsR (B:Int) (a b:List Qg):Prop:=b.length=a.length/\∀(j:Nat) (k:Qg),a[j]?=some k->∃q,b[j]?=some q/\KR B k q
def rkey (r:Qs):Str×Str×Str×Str:=(r.Xj,r.Xi,r.A,r.B)
structure NumR (B:Int) (x y:Qb):Prop where
 version:y.Version=x.Version
 lives:y.Xd=x.Xd
 kinds:KsR B x.Xa y.Xa
 rules:(y.Xc.map rkey).Sublist (x.Xc.map rkey)
 ns:∀r∈y.Xc,-1048576<=r.N/\r.N<=1048576
def FsR.sg {B:Int} {a b:List Qc} (h:FsR B a b):b.map sg=a.map sg:=by
 refine ext_getElem? λj=>?_;rw[ZG,ZG]
 cases hf:a[j]? with
 | none=>rw[getElem?_eq_none (by rw[h.1];exact List.getElem?_eq_none_iff.1 hf)]
 | some f=>obtain⟨g,hg,hr⟩:=h.2 j f hf;rw[hg];simp only[Ya,Go.Proofs.YtlajingmjmnfgaaGreatDoor.sg,hr.name,hr.kind,hr.of,hr.up]
def KsR.ks {B:Int} {a b:List Qg} (h:KsR B a b):b.map ks=a.map ks:=by
 refine ext_getElem? λj=>?_;rw[ZG,ZG]
 cases hf:a[j]? with
 | none=>rw[getElem?_eq_none (by rw[h.1];exact List.getElem?_eq_none_iff.1 hf)]
 | some k=>obtain⟨q,hq,hr⟩:=h.2 j k hf;rw[hq];simp only[Ya,Go.Proofs.YtlajingmjmnfgaaGreatDoor.ks,hr.name,hr.fields.sg]
def KsR.back {B:Int} {a b:List Qg} (h:KsR B a b) {q:Qg} (hq:q∈b):∃k∈a,KR B k q:=by
 obtain⟨j,hj,rfl⟩:=Ye hq;have hja:j<a.length:=by rw[<-h.1];exact hj
 obtain⟨q,hq,hr⟩:=h.2 j a[j] (Zb hja);rw[Zb hj] at hq;obtain rfl:=Zt hq;exact⟨_,Zm hja,hr⟩
def FsR.back {B:Int} {a b:List Qc} (h:FsR B a b) {q:Qc} (hq:q∈b):∃k∈a,FR B k q:=by
 obtain⟨j,hj,rfl⟩:=Ye hq;have hja:j<a.length:=by rw[<-h.1];exact hj
 obtain⟨q,hq,hr⟩:=h.2 j a[j] (Zb hja);rw[Zb hj] at hq;obtain rfl:=Zt hq;exact⟨_,Zm hja,hr⟩
def Qoy {lo hi a b:Int} (h:a<=lo/\lo<=hi/\hi<=b):Qdl lo hi a b=true:=by simp only[Qdl,Zf,Zk];omega
def FR.fieldS {B:Int} (hB:B<=29) {f g:Qc} (h:FR B f g) (hf:fieldS f=true):fieldS g=true:=by
 by_cases h1:f.Xi=1
 ·have hs:=Qoy (a:=0) (b:=65536) (by have:=h.ref h1;omega:0<=g.Lo/\g.Lo<=g.Hi/\g.Hi<=65536);have hk:g.Xi=1:=h.kind.trans h1;unfold Go.Proofs.YtlajingmjmnfgaaGreatDoor.fieldS Qcx QbO Qcy at hf ⊢;rw[hk,h.name,h.of,h.up,h.words,h.weights];rw[h1] at hf;simp at hf ⊢;exact⟨⟨hf.1.1,hf.1.2⟩,hf.2.1,hs⟩
 ·by_cases h2:f.Xi=2
  ·have hs:=Qoy (h.num (.inl h2));have hk:g.Xi=2:=h.kind.trans h2;unfold Go.Proofs.YtlajingmjmnfgaaGreatDoor.fieldS Qcx QbO Qcy at hf ⊢;rw[hk,h.name,h.of,h.up,h.words,h.weights];rw[h2] at hf;simp at hf ⊢;exact⟨⟨hf.1.1,hf.1.2⟩,hs⟩
  ·by_cases h4:f.Xi=4
   ·have hs:=Qoy (h.num (.inr h4));have hk:g.Xi=4:=h.kind.trans h4;unfold Go.Proofs.YtlajingmjmnfgaaGreatDoor.fieldS Qcx QbO Qcy at hf ⊢;rw[hk,h.name,h.of,h.up,h.words,h.weights];rw[h4] at hf;simp at hf ⊢;exact⟨⟨hf.1.1,hf.1.2⟩,hf.2.1,hs⟩
   ·rw[h.same h1 h2 h4];exact hf
def KR.kindS {B:Int} (hB:B<=29) {k q:Qg} (h:KR B k q) (hk:kindS k=true):kindS q=true:=by unfold Go.Proofs.YtlajingmjmnfgaaGreatDoor.kindS at hk ⊢;simp only[Zf,Zk,Zu] at hk ⊢;refine⟨⟨⟨by rw[h.name];exact hk.1.1.1,Qoy (by have:=h.span;omega)⟩,by rw[h.fields.1];exact hk.1.2⟩,λg hg=>?_⟩;obtain⟨f,hf,hr⟩:=h.fields.back hg;exact hr.fieldS hB (hk.2 f hf)
def Qxo {B:Int} {x y:Qb} (h:NumR B x y) {r:Qs} (hr:r∈y.Xc):∃s∈x.Xc,rkey s=rkey r:=by have:=h.rules.subset (ZZ (f:=rkey) hr);obtain⟨s,hs,e⟩:=ZE.1 this;exact⟨s,hs,e⟩
def Qld.key {q:Ks} {r s:Qs} (h:Qld q s) (e:rkey s=rkey r):Qld q r:=by simp only[rkey,Yy] at e;obtain⟨e1,e2,e3,e4⟩:=e;unfold Qld at h ⊢;rw[<-e1,<-e2,<-e3,<-e4];exact h
def NumR.rulesS {B:Int} {x y:Qb} (h:NumR B x y) {n:Int} (hR:Qg5 x.Xa n x.Xc):Qg5 y.Xa n y.Xc:=by
 obtain⟨ps,p1,p2,p3⟩:=hR;have hsub:=h.rules;rw[<-p1,Yw] at hsub;obtain⟨qs,q1,q2⟩:=sublist_map_iff.1 hsub;have hlen:qs.length=y.Xc.length:=by have:=ZH length q2;simpa using this.symm
 refine⟨(qs.map Prod.fst).zip y.Xc,?_,?_,λp hp=>?_⟩
 ·rw[map_snd_zip (by simp;omega)]
 ·rw[map_fst_zip (by simp;omega)];exact p2.sublist (q1.map Prod.fst)
 ·obtain⟨j,hj,rfl⟩:=Ye hp;have hj':j<qs.length:=by simp at hj;omega
  rw[getElem_zip];have hm:=q1.subset (Zm hj');obtain⟨g1,k,hk,g2⟩:=p3 _ hm;obtain⟨q,hq,hr⟩:=h.kinds.2 _ k hk;refine⟨by simpa using g1,q,by simpa using hq,?_⟩;have e0:ks q=ks k:=by unfold Go.Proofs.YtlajingmjmnfgaaGreatDoor.ks;rw[hr.name,hr.fields.sg]
  rw[e0];refine g2.key ?_;have:=ZH (λl=>l[j]?) q2;simp only[ZG,Zb hj',Zb (show j<y.Xc.length by omega),Ya,Yc,Function.comp] at this;exact this.symm
def NumR.genS {B:Int} (hB:B<=29) {x y:Qb} (h:NumR B x y) (hg:GenS x):GenS y:=by
 obtain⟨⟨⟨s1,s2⟩,s3,s4,s5⟩,⟨t1,t2,t3,t4,t5⟩,hv,hc,hn,hp,hl,n,hR⟩:=hg;have hrl:y.Xc.length<=x.Xc.length:=by have:=h.rules.length_le;simpa using this
 have key:∀r∈y.Xc,∃s∈x.Xc,s.Xj=r.Xj/\s.Xi=r.Xi/\s.A=r.A/\s.B=r.B:=λr hr=>by obtain⟨s,hs,e⟩:=Qxo h hr;simp only[rkey,Yy] at e;exact⟨s,hs,e⟩
 refine⟨⟨⟨by rw[h.kinds.1];exact s1,λq hq=>?_⟩,by rw[h.lives];exact s3,by omega,λr hr=>?_⟩,⟨by rw[h.kinds.1];exact t1,λq hq g hgm=>?_,by rw[h.lives];exact t3,by rw[h.lives];exact t4,by omega⟩,?_,by rw[h.kinds.ks];exact hc,λq hq=>?_,by rw[h.kinds.1];exact hp,by rw[h.lives];exact hl,n,h.rulesS hR⟩
 ·obtain⟨k,hk,hkr⟩:=h.kinds.back hq;obtain⟨a1,a2,a3⟩:=s2 k hk;refine⟨by rw[hkr.fields.1];exact a1,λg hgm=>?_,by rw[hkr.name];exact a3⟩;obtain⟨f,hf,hfr⟩:=hkr.fields.back hgm;have:=a2 f hf;unfold FZ FN at this ⊢;rw[hfr.words,hfr.weights,hfr.name,hfr.of,hfr.up];exact this
 ·obtain⟨s,hs,e1,e2,e3,e4⟩:=key r hr;have:=s5 s hs;unfold RN at this ⊢;rw[<-e1,<-e2,<-e3,<-e4];exact this
 ·obtain⟨k,hk,hkr⟩:=h.kinds.back hq;obtain⟨f,hf,hfr⟩:=hkr.fields.back hgm;rw[hfr.words];exact t2 k hk f hf
 ·unfold Qeo at hv ⊢;simp only[Zf,Zk,Zu] at hv ⊢;obtain⟨⟨⟨⟨⟨⟨v1,v2⟩,v3⟩,v4⟩,v5⟩,v6⟩,v7⟩:=hv;refine⟨⟨⟨⟨⟨⟨by rw[h.version];exact v1,by rw[h.kinds.1];exact v2⟩,by rw[h.lives];exact v3⟩,by omega⟩,λq hq=>?_⟩,by rw[h.lives];exact v6⟩,λr hr=>?_⟩
  ·obtain⟨k,hk,hkr⟩:=h.kinds.back hq;exact hkr.kindS hB (v5 k hk)
  ·obtain⟨s,hs,e1,e2,e3,e4⟩:=key r hr;have:=v7 s hs;have hN:=h.ns r hr;unfold QbX inW at this ⊢;simp only[Zf,Zk] at this ⊢;rw[<-e1,<-e2,<-e3,<-e4];exact⟨this.1,hN⟩
 ·obtain⟨k,hk,hkr⟩:=h.kinds.back hq;have:=hkr.span;omega
def Part {α:Type} (R:α->α->Prop) (a b:List α) (i:Nat):Prop:=b.length=a.length/\(∀(j:Nat) (f:α),a[j]?=some f->j<i->∃g,b[j]?=some g/\R f g)/\∀j:Nat,i<=j->b[j]?=a[j]?
def Part.zero {α:Type} (R:α->α->Prop) (a:List α):Part R a a 0:=⟨rfl,λj f _ h=>by omega,λ_ _=>rfl⟩
def Part.step {α:Type} {R:α->α->Prop} {a b:List α} {i:Nat} (h:Part R a b i) {f g:α} (hf:a[i]?=some f) (hr:R f g):Part R a (b.set i g) (i+1):=by
 have hi:i<b.length:=by rw[h.1];exact (Zg.1 hf).1
 refine⟨by simpa using h.1,λj f' hf' hj=>?_,λj hj=>?_⟩
 ·rw[getElem?_set];by_cases e:i=j
  ·subst e;rw[hf] at hf';obtain rfl:=Zt hf';exact⟨g,by rw[Zc rfl,Zc hi],hr⟩
  ·rw[Zd e];exact h.2.1 j f' hf' (by omega)
 ·rw[getElem?_set,Zd (by omega)];exact h.2.2 j (by omega)
def Part.full {α:Type} {R:α->α->Prop} {a b:List α} {i:Nat} (h:Part R a b i) (hi:a.length<=i):b.length=a.length/\∀(j:Nat) (f:α),a[j]?=some f->∃g,b[j]?=some g/\R f g:=⟨h.1,λj f hf=>h.2.1 j f hf (by have:=(Zg.1 hf).1;omega)⟩
def Part.at {α:Type} {R:α->α->Prop} {a b:List α} {i:Nat} (h:Part R a b i) (hi:i<b.length):∃f,a[i]?=some f/\b[i]?=some f:=by
 have hia:i<a.length:=by rw[<-h.1];exact hi
 exact⟨a[i],Zb hia,by rw[h.2.2 i (ZB _),Zb hia]⟩
def RR (r s:Qs):Prop:=rkey s=rkey r/\-1048576<=s.N/\s.N<=1048576
def Qzl {x:Qb} {l:List Int} (hs:QcZ x) (hv:∀k∈x.Xa,k.Xb.length<=1000) (hl:∀z∈l,I64 z):Ok (Qgh x l) (NumR 8 x):=by
 have hkl:=hs.few.1;have hrl:=hs.rules;unfold Qgh;simp only[Yf,Zl,Nat.zero_add];refine Ok.rm (by omega) ?_;refine Ok.bind (P:=λp:Int×List Qg=>KsR 8 x.Xa p.2) (Ok.loop (λm s=>∃i:Nat,s.1=(i:Int)/\i+m=x.Xa.length/\Part (KR 8) x.Xa s.2.2 i) x.Xa.length ⟨0,rfl,by omega,Part.zero _ _⟩ λm s ⟨i,hi,him,hP⟩=>?_) (λp hp=>?_)
 ·obtain⟨s1,at',L⟩:=s;dsimp only at hi hP ⊢;subst hi;refine Ok.ite (λh=>?_) (λh=>?_)
  ·have hiL:i<L.length:=by simpa using h
   obtain⟨k,hk1,hk2⟩:=hP.at hiL;have hkf:k.Xb.length<=1000:=hv k (Zr hk1);refine Ok.at1 hl (by decide) λt28 a0 a1=>?_;refine Ok.idx a0 a1 λt29 ht29 _=>?_;have h29:0<=t29/\t29<=6:=by simp only[Zo,Zw,ZI] at ht29;omega
   rw[QbS,hk2];simp only[Za];rw[Qgz hiL];simp only[Za];refine Ok.at1 hl (by decide) λt44 b0 b1=>?_;rw[QbS,getElem?_set,Zc rfl,Zc hiL];simp only[Za];rw[Qgz (by simpa using hiL)];simp only[Za];rw[QbS,hk1];simp only[Za];refine Ok.rm (by omega) ?_;rw[QbS,getElem?_set,Zc rfl,Zc (by simpa using hiL)];simp only[Za];rw[w64 (n:=t29+t44) (by omega) (by omega)];refine Ok.bind (P:=λp:Int×List Qc=>FsR 8 k.Xb p.2) (Ok.loop (λm s=>∃j:Nat,s.1=(j:Int)/\j+m=k.Xb.length/\Part (FR 8) k.Xb s.2.2 j) k.Xb.length ⟨0,rfl,by omega,Part.zero _ _⟩ λm s ⟨j,hj,hjm,hQ⟩=>?_) (λp hp=>?_)
   ·obtain⟨s1,at2,F⟩:=s;dsimp only at hj hQ ⊢;subst hj;refine Ok.ite (λh=>?_) (λh=>?_)
    ·have hjF:j<F.length:=by simpa using h
     obtain⟨f,hf1,hf2⟩:=hQ.at hjF;rw[QbS,hf2];simp only[Za];have hstep:∀g,FR 8 f g->Ok ((setAt F (j:Int) g).bind λt126s=>(some (Sum.inl ((i64.wrap ((j:Int)+(1:Int))),(i64.wrap (at2+(2:Int))),t126s)):Option ((Int×Int×List Qc)⊕(Int×List Qc)))) (λo=>∃s',o=.inl s'/\∃k',k'<m/\∃j:Nat,s'.1=(j:Int)/\j+k'=k.Xb.length/\Part (FR 8) k.Xb s'.2.2 j):=λg hg=>by rw[Qgz hjF];exact Ok.mk ⟨_,rfl,m - 1,by have:=hQ.1;omega,j+1,Qw (n:=k.Xb.length) (by have:=hQ.1;omega) (by omega),by have:=hQ.1;omega,hQ.step hf1 hg⟩
     by_cases h1:f.Xi=1
     ·rw[Zc (by simpa using h1)];refine Ok.bind (P:=λg:Qc=>FR 8 f g) ?_ (λg hg=>?_)
      ·refine Ok.at1 hl (by decide) λa a0 a1=>Ok.at1 hl (by decide) λb b0 b1=>Ok.mk ?_;rw[w64 (n:=a+b) (by omega) (by omega)];exact⟨rfl,rfl,rfl,rfl,rfl,rfl,λ_=>⟨by dsimp only;omega,by dsimp only;omega,by dsimp only;omega⟩,λh=>by omega,λh=>absurd h1 h⟩
      ·have hgk:g.Xi=1:=hg.kind.trans h1;rw[Zd (by rw[hgk];decide)];simp only[Za];exact (hstep g hg).Xp λo ⟨s',e,ho⟩=>by subst e;exact ho
     ·rw[Zd (by simpa using h1)];simp only[Za];by_cases h24:f.Xi=2\/f.Xi=4
      ·rw[Zc (by simpa using h24)];refine Ok.bind (P:=λg:Qc=>FR 8 f g) ?_ (λg hg=>(hstep g hg).Xp λo ⟨s',e,ho⟩=>by subst e;exact ho);refine Ok.at1 hl (by decide) λa a0 a1=>Ok.at1 hl (by decide) λb b0 b1=>Ok.mk ?_;rw[w64 (n:=a+b) (by omega) (by omega)];exact⟨rfl,rfl,rfl,rfl,rfl,rfl,λh=>absurd h h1,λ_=>⟨by dsimp only;omega,by dsimp only;omega,by dsimp only;omega⟩,λ_ h2 h4=>(h24.elim h2 h4).elim⟩
      ·rw[Zd (by simpa using h24)];simp only[Za];exact (hstep f ⟨rfl,rfl,rfl,rfl,rfl,rfl,λh=>absurd h h1,λh=>absurd h h24,λ_ _ _=>rfl⟩).Xp λo ⟨s',e,ho⟩=>by subst e;exact ho
    ·have hjF:¬j<F.length:=by simpa using h
     exact Ok.mk (hQ.full (by have:=hQ.1;omega))
   ·refine Ok.mk ⟨m - 1,by have:=hP.1;omega,i+1,Qw (n:=x.Xa.length) (by have:=hP.1;omega) (by omega),by have:=hP.1;omega,?_⟩;dsimp only;rw[Zv,List.set_set,List.set_set];exact hP.step hk1 ⟨rfl,⟨by dsimp only;omega,by dsimp only;omega,by dsimp only;omega⟩,hp⟩
  ·have hiL:¬i<L.length:=by simpa using h
   exact Ok.mk (hP.full (by have:=hP.1;omega))
 ·refine Ok.rm (by omega) ?_;refine Ok.bind (P:=λp:List Qs=>∃i:Nat,x.Xc.length<=i/\Part RR x.Xc p i) (Ok.loop (λm s=>∃i:Nat,s.1=(i:Int)/\i+m=x.Xc.length/\Part RR x.Xc s.2 i) x.Xc.length ⟨0,rfl,by omega,Part.zero _ _⟩ λm s ⟨i,hi,him,hP⟩=>?_) (λq ⟨i,hi,hq⟩=>?_)
  ·obtain⟨s1,L⟩:=s;dsimp only at hi hP ⊢;subst hi;refine Ok.ite (λh=>?_) (λh=>?_)
   ·have hiL:i<L.length:=by simpa using h
    obtain⟨k,hk1,hk2⟩:=hP.at hiL;refine Ok.at1 hl (by decide) λa a0 a1=>?_;rw[QbS,hk2];simp only[Za];rw[Qgz hiL];simp only[Za];rw[w64 (n:=a - 9) (by omega) (by omega)];exact Ok.mk ⟨m - 1,by have:=hP.1;omega,i+1,Qw (n:=x.Xc.length) (by have:=hP.1;omega) (by omega),by have:=hP.1;omega,hP.step hk1 ⟨rfl,by dsimp only;omega,by dsimp only;omega⟩⟩
   ·have hiL:¬i<L.length:=by simpa using h
    exact Ok.mk ⟨i,by have:=hP.1;omega,hP⟩
  ·obtain⟨q1,q2⟩:=hq.full hi;refine Ok.mk ⟨rfl,rfl,hp,?_,λr hr=>?_⟩
   ·have:q.map rkey=x.Xc.map rkey:=by
     refine ext_getElem? λj=>?_;rw[ZG,ZG]
     cases hf:x.Xc[j]? with
     | none=>rw[getElem?_eq_none (by rw[q1];exact List.getElem?_eq_none_iff.1 hf)]
     | some r=>obtain⟨g,hg,hr⟩:=q2 j r hf;rw[hg];simp only[Ya,hr.1]
    show (q.map rkey).Sublist (x.Xc.map rkey);rw[this];exact Sublist.refl _
   ·obtain⟨j,hj,rfl⟩:=Ye hr;have hjx:j<x.Xc.length:=by rw[<-q1];exact hj
    obtain⟨g,hg,hr⟩:=q2 j _ (Zb hjx);rw[Zb hj] at hg;obtain rfl:=Zt hg;exact hr.2
def Qns {all:List Str} (hn:all.Nodup):∀{js:List Nat} {b:Nat},js.Pairwise (·< ·)->(∀j∈js,b<=j/\j<all.length)->Qcg all (js.map λi=>all.getD i []) b=some js
 | [],_,_,_=>rfl
 | j::js,b,hp,h=>by
  obtain⟨hp1,hp2⟩:=pairwise_cons.1 hp;obtain⟨hb,hj⟩:=h j (Zn ..);rw[Yi];unfold Qcg;have hg:all.getD j []=all[j]:=by rw[Zi,Zb hj];rfl
  have hf:all.findIdx? (λt=>all.getD j []==t)=some j:=by
   rw[ZD];refine⟨hj,by rw[hg];simp,λi hi=>?_⟩;rw[hg];have:all[i]≠all[j]:=λe=>by have:=Ql9 hn (by omega) hj e;omega
   simpa using this.symm
  rw[hf];dsimp only;rw[Zc hb,Qns hn hp2 λi hi=>⟨by have:=hp1 i hi;omega,(h i (Zq _ hi)).2⟩];rfl
def Qxp {js:List Nat} (hn:js.Nodup) {s:Nat} (hs:s<js.length) {i:Nat}:i∈js.eraseIdx s↔i∈js/\i≠js[s]:=by
 constructor
 ·intro h;refine⟨mem_of_mem_eraseIdx h,λe=>?_⟩;rw[eraseIdx_eq_take_drop_succ] at h;have hp:=pairwise_iff_getElem.1 (show Pairwise (·≠·) js from hn);rcases Zs.1 h with h | h
  ·obtain⟨a,ha,e2⟩:=mem_take_iff_getElem.1 h;exact hp a s (by omega) hs (by omega) (e2.trans e)
  ·obtain⟨a,ha,e2⟩:=mem_drop_iff_getElem.1 h;exact hp s (s+1+a) hs (by omega) (by omega) (e.symm.trans e2.symm)
 ·rintro ⟨h,hne⟩;obtain⟨a,ha,rfl⟩:=Ye h;rw[eraseIdx_eq_take_drop_succ];rcases Nat.lt_trichotomy a s with h' | h' | h'
  ·exact mem_append_left _ (mem_take_iff_getElem.2 ⟨a,by omega,rfl⟩)
  ·subst h';exact absurd rfl hne
  ·exact mem_append_right _ (mem_drop_iff_getElem.2 ⟨a - (s+1),by omega,by simp only[show s+1+(a - (s+1))=a by omega]⟩)
def Qh5 {x:Qb} (hc:Q0 x=[]):(nLim x>16/\whyR x=([],4))\/(nLim x<=16/\QeW x=true/\whyR x=([],6))\/(nLim x<=16/\QeW x=false/\whyR x=((whyJ x).map (Qa7 x),0)):=by
 unfold whyR;rw[hc];dsimp only;by_cases h16:nLim x>16
 ·rw[Zc h16];exact .inl ⟨h16,rfl⟩
 ·rw[Zd h16]
  cases hb:QeW x with
  | true=>rw[Zc rfl];exact .inr (.inl ⟨by omega,rfl,rfl⟩)
  | false=>rw[Zd (by simp)];exact .inr (.inr ⟨by omega,rfl,rfl⟩)
structure WhyOk (x:Qb):Prop where
 sorted:(whyJ x).Pairwise (·< ·)
 lt:∀j∈whyJ x,j<(QaA x).length
 not:QcA x (λi=>(whyJ x).contains i)=false
 less:∀s,s<(whyJ x).length->QcA x (λi=>((whyJ x).eraseIdx s).contains i)=true
 pos:0<(whyJ x).length
 few:(whyJ x).length<=300
def Qr7 {x:Qb} (hc:Q0 x=[]) (h16:nLim x<=16) (hb:QeW x=false):WhyOk x:=by
 obtain⟨K,m,hmin,hbest,hsz⟩:=QrW hc h16 hb;have hmem:∀i,i∈whyJ x↔i∈wOf x K m:=λi=>by rw[Qr0,hbest]
 have hsort:=QsG (x:=x) (by rw[hbest];exact QCL hc K m);have hnd:(whyJ x).Nodup:=hsort.imp λh=>by omega
 have hl:(whyJ x).length=QbR x K m:=by rw[Qnr,hbest,QmI h16 hmin.bad.lt]
 have h300:=Qh3 hc;refine⟨hsort,λj hj=>?_,?_,λs hs=>?_,by rw[hl];exact QrS hc h16 hmin.bad,by omega⟩
 ·rw[QgE];exact w_lt hc ((hmem j).1 hj)
 ·rw[w_kept hc hmin.bad.good hmem];exact hmin.bad.bad
 ·refine w_less hc h16 hmin ((hmem _).1 (Zm hs)) λi=>?_;rw[Qxp hnd hs,hmem]
def QpZ {x:Qb} (hc:Q0 x=[]) (h16:nLim x<=16) (hb:QeW x=false):QhI x ((whyJ x).map (Qa7 x))=0:=by have h:=Qr7 hc h16 hb;unfold QhI;rw[hc];dsimp only;rw[Zd (by omega)];have hm:Qcg (QaA x) ((whyJ x).map (Qa7 x)) 0=some (whyJ x):=Qns (Qii hc) h.sorted λj hj=>⟨by omega,h.lt j hj⟩;rw[hm];dsimp only;rw[h.not,Zd (by simp),Zc];exact Zu.2 λs hs=>h.less s (ZP.1 hs)
def Qzm {x:Qb}:(whyR x).2=(QmJ x).2/\((whyR x).1.length:Int)=(QmJ x).1/\(whyR x).1.length<=300/\((whyR x).2=0->QhI x (whyR x).1=0):=by
 cases hc:Q0 x with
 | cons p l=>
  have hne:=Qhm (x:=x) (p:=p) (by rw[hc];exact Zn ..);have e1:whyR x=([],p.Code):=by unfold whyR;rw[hc]
  have e2:QmJ x=(0,p.Code):=by unfold QmJ;rw[hc]
  rw[e1,e2];exact⟨rfl,rfl,by simp,λh=>absurd h hne⟩
 | nil=>
  have e2:QmJ x=if nLim x>16 then (0,4) else if QeW x=true then (0,6) else (((QdF x).length:Int),0):=by unfold QmJ;rw[hc]
  rw[e2];rcases Qh5 hc with⟨h1,h⟩ | ⟨h1,h2,h⟩ | ⟨h1,h2,h⟩
  ·rw[h,Zc h1];exact⟨rfl,rfl,by simp,λh=>by cases h⟩
  ·rw[h,Zd (by omega),Zc h2];exact⟨rfl,rfl,by simp,λh=>by cases h⟩
  ·rw[h,Zd (by omega),Zd (by rw[h2];simp)];have:=(Qr7 hc h1 h2).few;refine⟨rfl,?_,by simpa using this,λ_=>QpZ hc h1 h2⟩;dsimp only;rw[Zz,Qnr]
def QCU {l:List Str} {pick:List Int} (hl:l.length<=1000) (hp:∀x∈pick,I64 x):
  Ok (Ql (λ(s9:Int×List Str)=>((if (decide (s9.1<(l.length:Int)))=true then (QbG pick s9.1 (2:Int)).bind λt41=>((if (t41==(1:Int))=true then (idx l s9.1).bind λt46=>(rm (s9.2.length+[t46].length)).bind λ_=>(some (s9.2++[t46])) else (some s9.2))).bind λ(p93:List Str)=>(some (.inl ((i64.wrap (s9.1+(1:Int))),p93))) else (some (.inr s9.2))):Option ((Int×List Str)⊕((List Str))))) ((0:Int),([]:List Str))) (λr=>r.length<=1000):=by
 refine Ok.loop (λm s=>∃i:Nat,s.1=(i:Int)/\i+m=l.length/\s.2.length<=i) l.length ⟨0,rfl,by omega,by simp⟩ λm s ⟨i,hi,him,hP⟩=>?_;obtain⟨s1,L⟩:=s;dsimp only at hi hP ⊢;subst hi;refine Ok.ite (λh=>?_) (λh=>?_)
 ·have hiL:i<l.length:=by simpa using h
  refine Ok.at1 hp (by decide) λt a0 a1=>?_;rw[Qw hiL (by omega)];refine Ok.bind (P:=λp:List Str=>p.length<=i+1) (Ok.ite (λ_=>?_) (λ_=>Ok.mk (by omega))) (λp hp=>Ok.mk ⟨m - 1,by omega,i+1,rfl,by omega,hp⟩);rw[QG hiL];simp only[Za];exact Ok.rm (by simp;omega) (Ok.mk (by simp;omega))
 ·have:¬i<l.length:=by simpa using h
  exact Ok.mk (by omega)
def QuQ {x:Qb} (hc:Q0 x=[]) (h16:nLim x<=16) (hb:QeW x=false) {s:Nat} (hs:s<(whyJ x).length):QhI x (((whyJ x).eraseIdx s).map (Qa7 x))=15:=by have h:=Qr7 hc h16 hb;unfold QhI;rw[hc];dsimp only;rw[Zd (by omega)];have hm:Qcg (QaA x) (((whyJ x).eraseIdx s).map (Qa7 x)) 0=some ((whyJ x).eraseIdx s):=Qns (Qii hc) (h.sorted.sublist (eraseIdx_sublist ..)) λj hj=>⟨by omega,h.lt j (mem_of_mem_eraseIdx hj)⟩;rw[hm];dsimp only;rw[h.less s hs,Zc rfl]
def exS (lo:Int):Qb:=⟨0,[⟨[97],lo,5,[⟨[107],[],[],0,0,0,[],[]⟩,⟨[110],[],[],2,0,3,[],[]⟩]⟩],[],[⟨[114],[97],[],[110],-9⟩]⟩
def Qme (lo:Int):QcZ (exS lo):=⟨⟨by simp[exS],λk hk=>by simp[exS] at hk;subst hk;simp⟩,⟨⟨by simp[exS],λk hk=>by simp[exS] at hk;subst hk;refine⟨by simp,λf hf=>?_⟩;simp at hf;rcases hf with rfl | rfl<;>simp⟩,⟨by simp[exS],λl hl=>by cases hl⟩,by simp[exS]⟩,by simp[exS],by simp[exS]⟩
set_option maxRecDepth 100000 in
def Qzn:Q0 (exS 1)=[]/\nLim (exS 1)=2/\QeW (exS 1)=false/\QdF (exS 1)=[0,3,4]/\Q0 (exS 0)=[]/\nLim (exS 0)=2/\QeW (exS 0)=true/\[0,3,4].map (Qa7 (exS 1))=[([97,32,108,101,97,115,116]:Str),([97,46,110,32,104,105,103,104]:Str),([114,117,108,101,58,114]:Str)]:=by decide+kernel
def Qmf:Qgy=some true:=by
 obtain⟨h1,h2,h3,h4,h5,h6,h7,h8⟩:=Qzn;have hJ:whyJ (exS 1)=[0,3,4]:=by unfold whyJ;rw[h4,<-Qwn];decide
 have hR:whyR (exS 1)=((whyJ (exS 1)).map (Qa7 (exS 1)),0):=by
  rcases Qh5 h1 with⟨h,_⟩ | ⟨_,h,_⟩ | ⟨_,_,h⟩
  ·omega
  ·rw[h3] at h;cases h
  ·exact h
 have hR0:whyR (exS 0)=([],6):=by
  rcases Qh5 h5 with⟨h,_⟩ | ⟨_,_,h⟩ | ⟨_,h,_⟩
  ·omega
  ·exact h
  ·rw[h7] at h;cases h
 have hC:=QpZ h1 (by omega) h3;rw[hJ,h8] at hR;rw[hJ,h8] at hC;have e1:Qc7 (1:Int)=some (exS 1):=rfl;have e0:Qc7 (0:Int)=some (exS 0):=rfl;unfold Qgy;rw[e1,e0];simp only[Za];rw[Qr1 (Qme 1),Qr1 (Qme 0),hR,hR0];simp only[Za,opt,beq_self_eq_true,Bool.and_self,if_true];rw[Qo3 (by simp)];have e:((true&&true)==true)=true:=rfl;simp only[Za,e,if_true];rw[Qla (Qme 1) (by simp),hC];rfl
def Qoz (l m pick:List Int) (a b:Int) (name:Str) (i0:∀x∈l,I64 x) (i1:∀x∈m,I64 x) (i2:∀x∈pick,I64 x) (i3:I64 a) (_:I64 b):QdS l m pick a b name=some true:=by
 have key:Ok (QdS l m pick a b name) (λr=>r=true):=by
  unfold QdS;refine (QuP i0).bind λx0 hx0=>?_;have hx0s:=hx0.clean.short;refine (Qzl hx0s hx0s.few.2 i1).bind λx hx=>?_;have hcl:=(hx.genS (by decide) hx0).clean;have hs:=hcl.short;have hc:=hcl.clean;have h300:=Qh3 hc;have hnl:(QaA x).length<=300:=by rw[QgE];exact h300
  have hnm:QhH x=(QaA x,0):=by unfold QhH;rw[hc]
  rw[QpM hs,hnm];simp only[Za];refine (QCU (by omega) i2).bind λpart hpart=>?_;obtain⟨_,_,hw300,_⟩:=Qzm (x:=x);rw[Qr1 hs];simp only[Za,Yf,Zl,Nat.zero_add,Ze,Zj];refine Ok.rm (by omega) (Ok.rm (by omega) (Ok.rm (by omega) (Ok.rm (by omega) ?_)));have fin:∀sets:List (List Str),sets.length<=100->(∀s∈sets,s.length<=10000)->(whyR x).2=0\/(whyR x).2=6\/(whyR x).2=4->Ok ((Ql (λ(s53:Int)=>((if (decide (s53<(sets.length:Int)))=true then (idx sets s53).bind λt106=>(QcN x t106).bind λt108=>(idx sets s53).bind λt112=>(Qdt x t112).bind λt114=>(if (t108 !=t114)=true then (some (.inr (.inr false))) else (some (.inl (i64.wrap (s53+(1:Int)))))) else (some (.inr (.inl ())))):Option ((Int)⊕((Unit)⊕(Bool))))) (0:Int)).bind λe=>if e.isLeft=true then some true else some false) (λr=>r=true):=λsets hsl hse _=>by
   rw[QcS sets (λ_=>true) false (λj hj=>?_) (by rw[Zd (by simp)])]
   ·rw[Zc (by simp)];exact Ok.mk rfl
   ·have:=hse _ (Zm hj);rw[Zc rfl,Zc (by simpa using hj),QG hj];simp only[Za];rw[Qla hs (by omega),QsF hs (by omega)];simp only[Za];rw[bne_self_eq_false,Zd (by decide),Qw hj (by omega)]
  have hend:((((whyR x).2==(0:Int))||((whyR x).2==(6:Int)))||((whyR x).2==(4:Int)))=true:=by rcases Qh5 hc with⟨_,h⟩ | ⟨_,_,h⟩ | ⟨_,_,h⟩<;>rw[h]<;>rfl
  have hways:(whyR x).2=0\/(whyR x).2=6\/(whyR x).2=4:=by rcases Qh5 hc with⟨_,h⟩ | ⟨_,_,h⟩ | ⟨_,_,h⟩<;>rw[h]<;>simp
  have fin2:∀sets:List (List Str),sets.length<=100->(∀s∈sets,s.length<=10000)->Ql (λ(s53:Int)=>((if (decide (s53<(sets.length:Int)))=true then (idx sets s53).bind λt106=>(QcN x t106).bind λt108=>(idx sets s53).bind λt112=>(Qdt x t112).bind λt114=>(if (t108 !=t114)=true then (some (.inr (.inr false))) else (some (.inl (i64.wrap (s53+(1:Int)))))) else (some (.inr (.inl ())))):Option ((Int)⊕((Unit)⊕(Bool))))) (0:Int)=some (.inl ()):=λsets hsl hse=>by
   obtain⟨r,hr,he⟩:=fin sets hsl hse hways
   cases ht:Ql (λ(s53:Int)=>((if (decide (s53<(sets.length:Int)))=true then (idx sets s53).bind λt106=>(QcN x t106).bind λt108=>(idx sets s53).bind λt112=>(Qdt x t112).bind λt114=>(if (t108 !=t114)=true then (some (.inr (.inr false))) else (some (.inl (i64.wrap (s53+(1:Int)))))) else (some (.inr (.inl ())))):Option ((Int)⊕((Unit)⊕(Bool))))) (0:Int) with
   | none=>rw[ht] at hr;cases hr
   | some e=>
    rw[ht,he] at hr
    cases e with
    | inl u=>rfl
    | inr u=>cases hr
  have base:∀s∈[part,QaA x,([]:(List Str)),[name],part++part,(whyR x).1,(whyR x).1++[name]],s.length<=10000:=λs hs=>by simp only[Zo,Zw,ZI] at hs;rcases hs with rfl | rfl | rfl | rfl | rfl | rfl | rfl<;>(try simp only[Ze,Zj,Zl])<;>omega
  unfold jn;refine Ok.ite (λhpos=>?_) (λ_=>?_)
  ·have hpos:0<(whyR x).1.length:=by simpa using hpos
   rcases Qh5 hc with⟨_,h⟩ | ⟨_,_,h⟩ | ⟨h16,hb,h⟩
   ·rw[h] at hpos;simp at hpos
   ·rw[h] at hpos;simp at hpos
   ·have hlen:(whyR x).1.length=(whyJ x).length:=by rw[h];simp
    refine (Qtj i3).bind λk hk=>?_;obtain⟨k0,k1⟩:=hk;have k1:=k1 (by omega);obtain⟨s,rfl⟩:=Zx k0;have hsl:s<(whyJ x).length:=by omega
    have e1:sub (whyR x).1 (0:Int) (s:Int)=some ((whyR x).1.take s):=by unfold sub;rw[Zc ⟨by omega,by omega,by omega⟩];simp
    have e2:sub (whyR x).1 (i64.wrap ((s:Int)+1)) ((whyR x).1.length:Int)=some ((whyR x).1.drop (s+1)):=by rw[Qw hsl (by omega)];unfold sub;rw[Zc ⟨by omega,by omega,by omega⟩];simp only[Zv];rw[ZJ (by simp)]
    have e3:(whyR x).1.take s++(whyR x).1.drop (s+1)=((whyJ x).eraseIdx s).map (Qa7 x):=by rw[h,eraseIdx_eq_take_drop_succ,ZM,map_take,map_drop]
    rw[e1];simp only[Za];refine Ok.rm (by simp;omega) ?_;rw[e2];simp only[Za];refine Ok.rm (by simp;omega) ?_;rw[e3,Qla hs (by simp;have:=length_eraseIdx_le (whyJ x) s;omega),QuQ hc h16 hb hsl];simp only[Za];rw[Zd (by decide)];refine Ok.rm (by simp) ?_;rw[fin2 _ (by simp) (λt ht=>by
     rcases Zs.1 ht with ht | ht
     ·exact base t ht
     ·rw[Zh.1 ht,Zz];have:=length_eraseIdx_le (whyJ x) s;omega)]
    simp only[Za];rw[hend,Qmf];exact Ok.mk rfl
  ·dsimp only;rw[fin2 _ (by simp) base];simp only[Za];rw[hend,Qmf];exact Ok.mk rfl
 obtain⟨r,hr,rfl⟩:=key;exact hr

/- The generators of schemas give a result. No condition. -/
import Derived.Test.YtjioihpegfgbpaaGreatDoorGenAll
import Derived.Test.YtjioihpegfgbpaaGreatDoorOk
set_option linter.all false
open List Go.IntKind
namespace Go.Proofs.YtjioihpegfgbpaaGreatDoor
open Go.Sim
def QpS {p n:Int} (hp:I64 p):Ok (Q2 p n) (λr=>0<=r/\(1<=n->r<n)/\(n<=0->r=0)):=by
 have hp':=hp;unfold I64 at hp';have key:∀q:Int,0<=q->Ok (if decide (n<1)=true then some 0 else (nz n).bind λ_=>some (Int.tmod q n)) (λr=>0<=r/\(1<=n->r<n)/\(n<=0->r=0)):=λq hq=>by
  refine Ok.ite (λh=>?_) (λh=>?_)
  ·have:n<1:=Zq h;exact Ok.mk ⟨ZF _,λh=>by omega,λ_=>rfl⟩
  ·have:¬n<1:=ZZ h;rw[nz_of (by omega)];exact Ok.mk ⟨Int.tmod_nonneg _ hq,λ_=>Int.tmod_lt_of_pos _ (by omega),λh=>by omega⟩
 unfold Q2;refine Ok.bind (P:=λq=>0<=q) (Ok.ite (λh=>?_) (λh=>?_)) (λq hq=>key q hq)
 ·have:p<0:=Zq h;refine Ok.mk ?_;have e1:i64.wrap (p+1)=p+1:=w64 (by omega) (by omega);rw[e1,w64 (by omega) (by omega)];omega
 ·have:¬p<0:=ZZ h;exact Ok.mk (by omega)
section
variable {β:Type} {Q:β->Prop}
def Ok.around {p n:Int} {f:Int->Option β} (hp:I64 p) (hn:1<=n) (k:∀r,0<=r->r<n->Ok (f r) Q):Ok ((Q2 p n).bind f) Q:=(QpS hp).bind λr h=>k r h.1 (h.2.1 hn)
def Ok.around0 {p n:Int} {f:Int->Option β} (hp:I64 p) (k:∀r,0<=r->(1<=n->r<n)->Ok (f r) Q):Ok ((Q2 p n).bind f) Q:=(QpS hp).bind λr h=>k r h.1 h.2.1
def MOk (m:QD):Prop:=∀x∈m.L,I64 x
def QlB {m:QD} {n:Int} (hm:MOk m) (hn:1<=n):Ok (QE m n) (λr=>0<=r.1/\r.1<n/\MOk r.2):=by unfold QE QkI;refine Ok.bind (P:=λr=>0<=r/\r<n) (Ok.ite (λh=>Ok.mk ⟨ZF _,by omega⟩) (λh=>?_)) (λr hr=>Ok.mk ⟨hr.1,hr.2,hm⟩);simp only[Bool.or_eq_false_iff,Yc] at h;refine Ok.idx (by omega) (by omega) λv hv _=>?_;exact Ok.around (hm v hv) hn λr h0 h1=>Ok.mk ⟨h0,h1⟩
def Ok.take {m:QD} {n:Int} {f:Int×QD->Option β} (hm:MOk m) (hn:1<=n) (k:∀r m',0<=r->r<n->MOk m'->Ok (f (r,m')) Q):Ok ((QE m n).bind f) Q:=(QlB hm hn).bind λr h=>k r.1 r.2 h.1 h.2.1 h.2.2
end
def SN (s:Str):Prop:=s.length<=20/\s.head?≠some 122
def FN (f:Qd):Prop:=SN f.Xi/\SN f.Of/\SN f.Up
def FOk (f:Qd):Prop:=f.Words.length<=6/\f.Xf.length<=6/\FN f
def KOk (n:Nat) (k:Qh):Prop:=k.Xb.length<=n/\(∀f∈k.Xb,FOk f)/\SN k.Xi
def QoM {l:List Qd} {name:Str} (hl:l.length<=1000):Ok (Qe9 l name) (λr=>-1<=r/\r<l.length):=by
 unfold Qe9;refine Ok.bind (P:=λe=>match e with | .inl _=>True | .inr r=>0<=r/\r<l.length) (Ok.loop (λk s=>0<=s/\s+k=l.length) l.length ⟨by omega,by omega⟩ λk s hs=>?_) (λe he=>?_)
 ·refine Ok.ite (λh=>?_) (λh=>Ok.mk trivial);have h':s<l.length:=Zq h;refine Ok.idx hs.1 h' λv _ _=>Ok.ite (λ_=>Ok.mk ⟨hs.1,h'⟩) (λ_=>Ok.mk ?_);rw[w64 (by omega) (by omega)];exact⟨k - 1,by omega,by omega,by omega⟩
 ·rcases e with e | e
  ·exact Ok.mk ⟨by omega,by omega⟩
  ·exact Ok.mk ⟨by omega,he.2⟩
def QuU {k:Qh} (hl:k.Xb.length<=1000):Ok (Qgi k) (λr=>-1<=r/\r<k.Xb.length):=by
 unfold Qgi;refine Ok.bind (P:=λe=>match e with | .inl _=>True | .inr r=>0<=r/\r<k.Xb.length) (Ok.loop (λn s=>0<=s/\s+n=k.Xb.length) k.Xb.length ⟨by omega,by omega⟩ λn s hs=>?_) (λe he=>?_)
 ·refine Ok.ite (λh=>?_) (λh=>Ok.mk trivial);have h':s<k.Xb.length:=Zq h;refine Ok.idx hs.1 h' λv _ _=>Ok.ite (λ_=>Ok.mk ⟨hs.1,h'⟩) (λ_=>Ok.mk ?_);rw[w64 (by omega) (by omega)];exact⟨n - 1,by omega,by omega,by omega⟩
 ·rcases e with e | e
  ·exact Ok.mk ⟨by omega,by omega⟩
  ·exact Ok.mk ⟨by omega,he.2⟩
def Qrv {m:QD} (hm:MOk m):Ok (Qc0 m) (λr=>r.1.length<=2/\(∀f∈r.1,FOk f)/\MOk r.2):=by
 unfold Qc0;refine Ok.take hm (by decide) λr m1 _ _ h1=>?_;refine Ok.ite (λ_=>?_) (λ_=>?_)
 ·refine Ok.take h1 (by decide) λr2 m2 _ _ h2=>Ok.take h2 (by decide) λr3 m3 _ _ h3=>Ok.mk ⟨by simp,by simp[FOk,FN,SN],h3⟩
 refine Ok.ite (λ_=>?_) (λ_=>?_)
 ·refine Ok.take h1 (by decide) λr2 m2 h20 h21 h2=>?_;have hr2:i64.wrap (1+r2)=1+r2:=w64 (by omega) (by omega);refine Ok.sub (by decide) (by dsimp only;rw[hr2];omega) (by dsimp only;rw[hr2];simp;omega) λw hw _=>?_;dsimp only at hw;rw[hr2] at hw;have hwl:1<=w.length/\w.length<=3:=by omega
  refine Ok.bind (P:=λr=>r.1.length=w.length/\MOk r.2) (Ok.loop (λk s=>0<=s.1/\s.1+k=w.length/\s.2.1.length=s.1/\MOk s.2.2) w.length ⟨ZF _,by simp,by simp,h2⟩ λk s hs=>?_) (λp hp=>?_)
  ·obtain⟨i,ws,m3⟩:=s;obtain⟨e1,e2,e3,e4⟩:=hs;dsimp only at e1 e2 e3 e4;refine Ok.ite (λh=>?_) (λh=>?_)
   ·have h':i<w.length:=Zq h;refine Ok.take e4 (by decide) λr4 m4 _ _ h4=>Ok.rm (by simp;omega) (Ok.mk ?_);dsimp only;rw[w64 (by omega) (by omega)];exact⟨k - 1,by omega,by omega,by omega,by simp;omega,h4⟩
   ·have h':¬i<w.length:=ZZ h;exact Ok.mk ⟨by dsimp only;omega,e4⟩
  ·refine Ok.take hp.2 (by omega) λr4 m4 h40 h41 h4=>Ok.take h4 (by decide) λr5 m5 _ _ h5=>?_;refine Ok.setAt h40 (by dsimp only;omega) (Ok.mk ⟨by simp,?_,h5⟩);intro f hf;rw[Zg] at hf;subst hf;exact⟨by dsimp only;omega,by simp only[ZS];omega,by simp[FN,SN]⟩
 refine Ok.ite (λ_=>?_) (λ_=>?_)
 ·refine Ok.take h1 (by decide) λr2 m2 _ _ h2=>Ok.take h2 (by decide) λr3 m3 _ _ h3=>Ok.take h3 (by decide) λr4 m4 _ _ h4=>Ok.take h4 (by decide) λr5 m5 _ _ h5=>Ok.mk ⟨by simp,by simp[FOk,FN,SN],h5⟩
 refine Ok.ite (λ_=>?_) (λ_=>?_)
 ·refine Ok.take h1 (by decide) λr2 m2 _ _ h2=>Ok.take h2 (by decide) λr3 m3 _ _ h3=>Ok.mk ⟨by simp,by simp[FOk,FN,SN],h3⟩
 refine Ok.ite (λ_=>?_) (λ_=>?_)
 ·refine Ok.take h1 (by decide) λr2 m2 _ _ h2=>Ok.take h2 (by decide) λr3 m3 _ _ h3=>Ok.take h3 (by decide) λr4 m4 _ _ h4=>Ok.take h4 (by decide) λr5 m5 _ _ h5=>Ok.mk ⟨by simp,by simp[FOk,FN,SN],h5⟩
 ·exact Ok.mk ⟨by simp,by simp,h1⟩
def GOk (n:Nat) (k:Qh):Prop:=KOk n k/\1<=k.Xi.length/\k.Xi.length<=6
def GOk.Xn {a b:Nat} {k:Qh} (h:GOk a k) (hab:a<=b):GOk b k:=⟨⟨by have:=h.1.1;omega,h.1.2⟩,h.2⟩
def fok {n o u:Str} {k lo hi:Int} (h1:SN n) (h2:SN o) (h3:SN u):FOk ⟨n,o,u,k,lo,hi,[],[]⟩:=⟨by simp,by simp,h1,h2,h3⟩
def QoN:SN []:=by simp[SN]
def QlT {c:Bool} {a b:QD} (h:c=true->MOk a) (k:MOk b):MOk (bif c==true then a else b):=by
 cases c with
 | true=>exact h rfl
 | false=>exact k
set_option maxHeartbeats 1000000 in
def Qyg {m:QD} {l:List Qh} {N:Nat} (hm:MOk m) (hl:l.length<=2) (hN:N<=20) (hk:∀k∈l,GOk N k):
  Ok (Qd7 m l) (λr=>GOk 9 r.1/\MOk r.2.1/\r.2.2.length=l.length/\∀k∈r.2.2,GOk (N+1) k):=by
 unfold Qd7;refine Ok.take hm (by decide) λr1 m1 a1 b1 h1=>?_;refine Ok.idx a1 (by simpa using b1) λlo _ _=>?_;refine Ok.idx (by omega) (by simp;omega) λname hname _=>?_;have hn:1<=name.length/\name.length<=6:=by simp only[Zm,Zr,ZJ] at hname;rcases hname with rfl | rfl | rfl<;>decide
 have hsn:SN name:=by simp only[Zm,Zr,ZJ] at hname;rcases hname with rfl | rfl | rfl<;>simp[SN]
 refine Ok.take h1 (by decide) λr2 m2 _ _ h2=>?_;refine Ok.take h2 (by decide) λr3 m3 a3 b3 h3=>?_;refine Ok.idx a3 (by simpa using b3) λid0 _ _=>?_;refine Ok.rm (by simp) ?_;refine Ok.bind (P:=λp:QD×List Qd×List Qh=>MOk p.1/\p.2.1.length<=4/\(∀f∈p.2.1,FOk f)/\p.2.2.length=l.length/\∀k∈p.2.2,GOk (N+1) k)
  (Ok.ite (λhpos=>?_) (λ_=>Ok.mk ⟨h3,by simp,by simp[FOk,FN,SN],rfl,λk h=>(hk k h).Xn (by omega)⟩)) λp hp=>?_
 ·have hpos':(0:Int)<l.length:=Zq hpos;refine Ok.take h3 (by omega) λto m4 a4 b4 h4=>?_;refine Ok.idx a4 b4 λkt hkt ekt=>?_;refine Ok.take h4 (by decide) λr5 m5 a5 b5 h5=>?_;refine Ok.idx a5 (by simpa using b5) λhi _ _=>?_;refine Ok.take h5 (by decide) λr6 m6 _ _ h6=>?_;have skt:=(hk kt hkt).1.2.2;refine Ok.bind (P:=FOk) (Ok.ite (λ_=>Ok.mk (fok (by simp[SN]) skt QoN)) (λ_=>Ok.mk (fok (by simp[SN]) skt QoN))) λf hf=>?_;refine Ok.rm (by simp) ?_;refine Ok.idx a4 b4 λkt1 hkt1 _=>?_;refine (QuU (by have:=(hk _ hkt1).1.1;omega)).bind λc hc=>?_;refine Ok.opt (P:=λr:Int×QD=>MOk r.2) (λh=>(QlB h6 (by decide)).Xn λr h=>h.2.2) λr7 h7=>?_;have m7:MOk (bif (decide (c>=(0:Int)))==true then r7.2 else m6):=QlT (λh=>h7 (by rw[h];rfl)) h6;refine Ok.bind (P:=λp:List Qd=>p.length<=3/\∀f∈p,FOk f) (Ok.ite (λh=>?_) (λ_=>Ok.mk ⟨by simp,?_⟩)) λfs hfs=>?_
  ·simp only[Zh,ZA] at h;refine Ok.idx a4 b4 λkt2 hkt2 ekt2=>?_;have e:kt2=kt1:=by simp_all
   subst e;refine Ok.idx h.1 hc.2 λg hg _=>Ok.rm (by simp) (Ok.mk ⟨by simp,?_⟩);have sg:=((hk _ hkt1).1.2.1 g hg).2.2.1;intro x hx;simp only[Ya,cons_append,Zm,Zr,ZJ] at hx;rcases hx with rfl | rfl | rfl
   ·simp[FOk,FN,SN]
   ·exact hf
   ·exact fok (by simp[SN]) sg (by simp[SN])
  ·intro x hx;simp only[Ya,cons_append,Zm,Zr,ZJ] at hx;rcases hx with rfl | rfl
   ·simp[FOk,FN,SN]
   ·exact hf
  ·refine Ok.idx a4 b4 λkt3 hkt3 ekt3=>?_;refine (QoM (by have:=(hk _ hkt3).1.1;omega)).bind λtot htot=>?_;refine Ok.opt (P:=λr:Int×QD=>MOk r.2) (λh=>(QlB m7 (by decide)).Xn λr h=>h.2.2) λr8 h8=>?_;have m8:MOk (bif (decide (tot<(0:Int)))==true then r8.2 else (bif (decide (c>=(0:Int)))==true then r7.2 else m6)):=QlT (λh=>h8 (by rw[h];rfl)) m7;refine Ok.bind (P:=λp:QD×List Qd×List Qh=>MOk p.1/\p.2.1.length<=4/\(∀f∈p.2.1,FOk f)/\p.2.2.length=l.length/\∀k∈p.2.2,GOk (N+1) k)
    (Ok.ite (λh=>?_) (λ_=>Ok.mk ⟨m8,by have:=hfs.1;dsimp only;omega,hfs.2,rfl,λk h=>(hk k h).Xn (by omega)⟩)) λp hp=>Ok.mk hp
   refine Ok.take m8 (by decide) λr9 m9 _ _ h9=>Ok.take h9 (by decide) λr10 m10 _ _ h10=>?_;refine Ok.rm (by have:=hfs.1;simp;omega) ?_;refine Ok.idx a4 b4 λkt4 hkt4 ekt4=>?_;have hk4:=hk _ hkt4;have hk41:=hk4.1.1;refine Ok.rm (by simp;omega) (Ok.rm (by simp;omega) ?_);refine Ok.idx a4 b4 λkt5 hkt5 ekt5=>?_;have e:kt5=kt4:=by simp_all
   subst e;refine Ok.setAt a4 b4 (Ok.mk ⟨h10,?_,?_,?_,?_⟩)
   ·have:=hfs.1;simp;omega
   ·intro x hx;rcases ZH.1 hx with hx | hx
    ·exact hfs.2 x hx
    ·rw[Zg] at hx;subst hx;simp[FOk,FN,SN]
   ·simp
   ·intro k hkm;rcases mem_or_eq_of_mem_set hkm with hkm | rfl
    ·exact (hk k hkm).Xn (by omega)
    ·refine⟨⟨?_,?_,hk4.1.2.2⟩,hk4.2⟩
     ·simp;omega
     ·intro x hx;rcases ZH.1 hx with hx | hx
      ·exact hk4.1.2.1 x (by simpa using hx)
      ·rw[Zg] at hx;subst hx;exact fok (by simp[SN]) hsn QoN
 ·obtain⟨q1,q2,q3,q4,q5⟩:=hp;refine Ok.opt (P:=λr:Int×QD=>MOk r.2) (λh=>(QlB q1 (by decide)).Xn λr h=>h.2.2) λr11 h11=>?_;have m11:MOk (bif (decide ((l.length:Int)>(1:Int)))==true then r11.2 else p.1):=QlT (λh=>h11 (by rw[h];rfl)) q1;refine Ok.bind (P:=λp:List Qd=>p.length<=5/\∀f∈p,FOk f) (Ok.ite (λh=>?_) (λ_=>Ok.mk ⟨by omega,q3⟩)) λfs hfs=>?_
  ·simp only[Zh,ZA] at h;refine Ok.idx (by decide) (by omega) λk0 hk0 _=>Ok.rm (by simp;omega) (Ok.mk ⟨by simp;omega,?_⟩);intro x hx;rcases ZH.1 hx with hx | hx
   ·exact q3 x hx
   ·rw[Zg] at hx;subst hx;exact fok (by simp[SN]) (q5 k0 hk0).1.2.2 QoN
  ·refine (Qrv m11).bind λr12 h12=>?_;obtain⟨c1,c2,c3⟩:=h12;obtain⟨f1,f2⟩:=hfs;refine Ok.rm (by omega) ?_;refine Ok.take c3 (by decide) λr13 m13 _ _ h13=>?_;have all7:∀f∈fs++r12.1,FOk f:=λx hx=>(ZH.1 hx).elim (f2 x) (c2 x);have len7:(fs++r12.1).length<=7:=by simp;omega
   refine Ok.bind (P:=λp:QD×List Qd=>MOk p.1/\p.2.length<=9/\∀f∈p.2,FOk f) (Ok.ite (λh=>?_) (λ_=>Ok.mk ⟨h13,by dsimp only;omega,all7⟩)) λp52 hp52=>Ok.mk ⟨⟨⟨hp52.2.1,hp52.2.2,hsn⟩,hn⟩,hp52.1,q4,q5⟩;refine (Qrv h13).bind λr14 h14=>?_;obtain⟨d1,d2,d3⟩:=h14;refine Ok.opt (P:=λ_=>True) (λh=>?_) λg _=>?_
   ·have h':(r14.1.length:Int)>0:=by simpa using h
    exact (Ok.idx (by decide) (by omega) λv _ _=>Ok.mk trivial:Ok ((idx r14.1 0).bind some) _).Xn (λ_ h=>h) |> λh=>by simpa using h
   refine Ok.opt (P:=λ_=>True) (λh=>(QoM (by omega)).Xn λ_ _=>trivial) λg2 _=>?_;refine Ok.bind (P:=λp:List Qd=>p.length<=9/\∀f∈p,FOk f) (Ok.ite (λh=>Ok.rm (by omega) (Ok.mk ⟨by rw[Zd];omega,λx hx=>(ZH.1 hx).elim (all7 x) (d2 x)⟩)) (λ_=>Ok.mk ⟨by omega,all7⟩)) λp64 hp64=>Ok.mk ⟨d3,hp64.1,hp64.2⟩
def RN (r:Qm):Prop:=SN r.Xi/\SN r.Xh/\SN r.A/\SN r.B
def Qrw {a r:Str} (h1:1<=a.length) (h2:a.length<=10) (h:a.head?≠some 122) (hr:r.length=1):SN (a++r):=by
 refine⟨by rw[Zd];omega,?_⟩
 cases a with
 | nil=>simp at h1
 | cons c a=>simpa using h
def Qyh {m:QD} {k:Qh} (hm:MOk m) (hk:GOk 12 k):Ok (Qd8 m k) (λr=>RN r.1/\MOk r.2.2):=by unfold Qd8;obtain⟨⟨k1,k2,ks⟩,k3,k4⟩:=hk;refine (QoM (by omega)).bind λa ha=>(QoM (by omega)).bind λb hb=>?_;refine Ok.opt (P:=λr:Int×QD=>MOk r.2) (λh=>(QlB hm (by decide)).Xn λr h=>h.2.2) λr1 h1=>?_;have m1:MOk (bif (decide (a>=(0:Int)))==true then r1.2 else m):=QlT (λh=>h1 (by rw[h];rfl)) hm;have nm:∀{β:Type} {Q:β->Prop} {f:Str->Option β},(∀r:Str,r.length=1->Ok (f r) Q)->Ok ((sub k.Xi 0 1).bind f) Q:=λh=>Ok.sub (by decide) (by decide) (by omega) λr hr _=>h r (by simpa using hr);refine Ok.ite (λ_=>nm λr hr=>Ok.cat (by simp;omega) (Ok.take m1 (by decide) λ_ m2 _ _ h2=>Ok.mk ⟨⟨Qrw (by simp) (by simp) (by simp) hr,ks,by simp[SN],by simp[SN]⟩,h2⟩)) (λ_=>?_);refine Ok.ite (λ_=>Ok.mk ⟨by simp[RN,SN],m1⟩) (λh=>?_);have hb0:¬b<0:=ZZ h;refine Ok.idx (by omega) hb.2 λf _ _=>Ok.take m1 (by decide) λr2 m2 _ _ h2=>?_;refine Ok.ite (λ_=>nm λr hr=>Ok.cat (by simp;omega) (Ok.take h2 (by decide) λ_ m2 _ _ h2=>Ok.mk ⟨⟨Qrw (by simp) (by simp) (by simp) hr,ks,by simp[SN],by simp[SN]⟩,h2⟩)) (λ_=>nm λr hr=>Ok.cat (by simp;omega) (Ok.take h2 (by decide) λ_ m2 _ _ h2=>Ok.mk ⟨⟨Qrw (by simp) (by simp) (by simp) hr,ks,by simp[SN],by simp[SN]⟩,h2⟩))
def SOk (n:Nat) (x:Qa):Prop:=x.Xa.length<=3/\(∀k∈x.Xa,KOk 14 k)/\x.Xd.length<=1/\(∀m∈x.Xd,m.Xe.length<=6/\m.Xg.length<=8/\SN m.Xi)/\x.Xc.length<=n/\∀r∈x.Xc,RN r
def SOk.Xn {a b:Nat} {x:Qa} (h:SOk a x) (hab:a<=b):SOk b x:=⟨h.1,h.2.1,h.2.2.1,h.2.2.2.1,ZW h.2.2.2.2.1 hab,h.2.2.2.2.2⟩
def QuV {l:List Int} (hl:∀x∈l,I64 x):Ok (Qgj l) (SOk 2):=by
 unfold Qgj;refine Ok.sub (by decide) (by unfold imin;split<;>omega) (by unfold imin;split<;>omega) λw _ hw=>?_;have h0:MOk (QD.mk w 0):=λx hx=>hl x (hw x hx);refine Ok.take h0 (by decide) λv m1 _ _ h1=>Ok.take h1 (by decide) λn m2 a2 b2 h2=>?_;have en:i64.wrap (1+n)=1+n:=w64 (by omega) (by omega);refine Ok.bind (P:=λp:List Qh×QD=>p.1.length=1+n/\(∀k∈p.1,GOk 12 k)/\MOk p.2)
  (Ok.loop (λk s=>0<=s.1/\s.1+k=1+n/\s.2.1.length=s.1/\(∀q∈s.2.1,GOk (9+s.1.toNat) q)/\MOk s.2.2) (1+n).toNat ⟨ZF _,by dsimp only;omega,by simp,by simp,h2⟩ λk s hs=>?_) (λp hp=>?_)
 ·obtain⟨i,ks,m3⟩:=s;obtain⟨e1,e2,e3,e4,e5⟩:=hs;dsimp only at e1 e2 e3 e4 e5;refine Ok.ite (λh=>?_) (λh=>?_)
  ·have h':i<1+n:=by have:=Zq h;rwa [en] at this
   refine (Qyg (N:=9+i.toNat) e5 (by omega) (by omega) e4).bind λr hr=>?_;obtain⟨r1,r2,r3,r4⟩:=hr;refine Ok.rm (by simp;omega) (Ok.mk ?_);have ei:i64.wrap (i+1)=i+1:=w64 (by omega) (by omega);refine⟨k - 1,by omega,?_⟩;dsimp only;rw[ei];refine⟨by omega,by omega,by simp;omega,λq hq=>?_,r2⟩;rcases ZH.1 hq with hq | hq
   ·exact (r4 q hq).Xn (by omega)
   ·rw[Zg] at hq;subst hq;exact r1.Xn (by omega)
  ·have h':¬i<1+n:=by have:=ZZ h;rwa [en] at this
   refine Ok.mk ⟨by dsimp only;omega,λq hq=>(e4 q hq).Xn (by omega),e5⟩
 obtain⟨p1,p2,p3⟩:=hp;refine Ok.take p3 (by decide) λt m4 a4 b4 h4=>?_;have et:i64.wrap (2+t)=2+t:=w64 (by omega) (by omega);refine Ok.sub (by decide) (by dsimp only;rw[et];omega) (by dsimp only;rw[et];simp;omega) λst hst _=>?_;dsimp only at hst;rw[et] at hst;have hsl:2<=st.length/\st.length<=4:=by omega
 refine Ok.bind (P:=λp:List Qac=>p.length<=3) (Ok.loop (λk s=>0<=s.1/\s.1+1+k=st.length/\s.2.length=s.1) (st.length - 1) ⟨ZF _,by dsimp only;omega,by simp⟩ λk s hs=>?_) (λmv hmv=>?_)
 ·obtain⟨i,ms⟩:=s;obtain⟨e1,e2,e3⟩:=hs;dsimp only at e1 e2 e3;have ei:i64.wrap (i+1)=i+1:=w64 (by omega) (by omega);refine Ok.ite (λh=>?_) (λh=>?_)
  ·have h':i+1<st.length:=by have:=Zq h;rwa [ei] at this
   refine Ok.rm (by simp;omega) (Ok.mk ⟨k - 1,by omega,?_⟩);dsimp only;rw[ei];exact⟨by omega,by omega,by simp;omega⟩
  ·have h':¬i+1<st.length:=by have:=ZZ h;rwa [ei] at this
   exact Ok.mk (by dsimp only;omega)
 refine Ok.take h4 (by decide) λr5 m5 _ _ h5=>?_;refine Ok.bind (P:=λp:List Qac=>p.length<=4) (Ok.ite (λ_=>Ok.rm (by simp;omega) (Ok.mk (by simp;omega))) (λ_=>Ok.mk (by omega))) λmv2 hmv2=>?_;refine Ok.take h5 (by decide) λr6 m6 _ _ h6=>?_;refine Ok.bind (P:=λp:List Qac=>p.length<=5) (Ok.ite (λ_=>Ok.rm (by simp;omega) (Ok.mk (by simp;omega))) (λ_=>Ok.mk (by omega))) λmv3 hmv3=>?_;refine Ok.rm (by simp) ?_;refine Ok.bind (P:=λp:List Qm=>p.length<=2/\∀r∈p,RN r) (Ok.loop (λk s=>0<=s.1/\s.1+k=1+n/\(s.2.1.length<=2/\∀r∈s.2.1,RN r)/\MOk s.2.2) (1+n).toNat ⟨ZF _,by dsimp only;omega,by simp,h6⟩ λk s hs=>?_) (λrs hrs=>?_)
 ·obtain⟨i,rs,m7⟩:=s;obtain⟨e1,e2,e3,e4⟩:=hs;dsimp only at e1 e2 e3 e4;refine Ok.ite (λh=>?_) (λh=>Ok.mk e3);simp only[Zh,ZA,en] at h;refine Ok.idx e1 (by omega) λq hq _=>(Qyh e4 (p2 q hq)).bind λr hr=>?_;refine Ok.bind (P:=λp:List Qm=>p.length<=2/\∀r∈p,RN r) (Ok.ite (λ_=>Ok.rm (by simp;omega) (Ok.mk ⟨by simp;omega,λy hy=>(ZH.1 hy).elim (e3.2 y) λhy=>by rw[Zg] at hy;subst hy;exact hr.1⟩)) (λ_=>Ok.mk e3)) λrs2 hrs2=>Ok.mk ⟨k - 1,by omega,?_⟩;dsimp only;rw[w64 (n:=i+1) (by omega) (by omega)];exact⟨by omega,by omega,hrs2,hr.2⟩
 ·refine Ok.mk ⟨by dsimp only;omega,λq hq=>⟨by have:=(p2 q hq).1.1;omega,(p2 q hq).1.2⟩,by simp,?_,hrs⟩;intro q hq;simp only[Ya,Zg] at hq;subst hq;exact⟨by dsimp only;omega,by dsimp only;omega,by simp[SN]⟩
def Ok.same {β:Type} {x:Option β} {Q:β->Prop} (h:Ok x Q):Ok (x.bind λp=>some p) Q:=h.bind λ_ hr=>Ok.mk hr
def Qe4 {α:Type} {P:α->Prop} {l:List α} {i:Nat} {x:α} (h:∀y∈l,P y) (hx:P x):∀y∈l.set i x,P y:=λy hy=>(mem_or_eq_of_mem_set hy).elim (h y) λe=>e▸hx
def Qpq {f:Qd} {h b:Int} (hf:FOk f) (hh:I64 h) (hb:I64 b):Ok (QdO f h b) (λg=>g.Words.length<=7/\g.Xf.length<=7/\FN g):=by
 obtain⟨f1,f2,f3⟩:=hf;unfold QdO;simp only[Ya,Zk,Nat.zero_add];have out:f.Words.length<=7/\f.Xf.length<=7/\FN f:=⟨by omega,by omega,f3⟩;have sn:∀{l:List Str} {s:Str},s∈l->(∀n∈l,SN n)->SN s:=λh k=>k _ h;refine Ok.around hh (by decide) λw w0 w1=>Ok.same (Ok.ite (λ_=>?_) (λ_=>Ok.same (Ok.ite (λ_=>?_) (λ_=>Ok.same (Ok.ite (λ_=>?_) (λ_=>Ok.same (Ok.ite (λ_=>?_) (λ_=>Ok.same (Ok.ite (λ_=>?_) (λ_=>Ok.same (Ok.ite (λ_=>?_) (λ_=>Ok.same (Ok.ite (λ_=>?_) (λ_=>?_))))))))))))))
 ·exact Ok.around hb (by decide) λ_ _ _=>Ok.mk out
 ·exact Ok.around hb (by decide) λi i0 i1=>Ok.idx i0 (by simpa using i1) λ_ hs _=>Ok.mk ⟨out.1,out.2.1,sn hs (by simp[SN]),f3.2⟩
 ·exact Ok.around hb (by decide) λi i0 i1=>Ok.idx i0 (by simpa using i1) λ_ hs _=>Ok.mk ⟨out.1,out.2.1,f3.1,sn hs (by simp[SN]),f3.2.2⟩
 ·exact Ok.around hb (by decide) λi i0 i1=>Ok.idx i0 (by simpa using i1) λ_ hs _=>Ok.mk ⟨out.1,out.2.1,f3.1,f3.2.1,sn hs (by simp[SN])⟩
 ·exact Ok.around hb (by decide) λi i0 i1=>Ok.idx i0 (by simpa using i1) λ_ _ _=>Ok.mk out
 ·exact Ok.around hb (by decide) λi i0 i1=>Ok.idx i0 (by simpa using i1) λ_ _ _=>Ok.mk out
 ·exact Ok.rm (by omega) (Ok.around hb (by decide) λi i0 i1=>Ok.idx i0 (by simpa using i1) λ_ _ _=>Ok.rm (by simp;omega) (Ok.rm (by omega) (Ok.around (Qir _) (by decide) λi i0 i1=>Ok.idx i0 (by simpa using i1) λ_ _ _=>Ok.rm (by simp;omega) (Ok.mk ⟨by simp;omega,by simp;omega,f3⟩))))
 ·exact Ok.mk' (by omega) (by omega) (Ok.mk ⟨out.1,by simp;omega,f3⟩)
def FZ (f:Qd):Prop:=f.Words.length<=7/\f.Xf.length<=7/\FN f
def KA (l:List Qh):Prop:=l.length<=3/\∀k∈l,k.Xb.length<=14/\(∀f∈k.Xb,FZ f)/\SN k.Xi
def LA (l:List Qr):Prop:=l.length<=1/\∀m∈l,m.Xe.length<=7/\m.Xg.length<=9/\SN m.Xi
def RA (l:List Qm):Prop:=l.length<=4/\∀r∈l,RN r
def Sz (x:Qa):Prop:=KA x.Xa/\LA x.Xd/\RA x.Xc
def FOk.z {f:Qd} (h:FOk f):FZ f:=⟨by have:=h.1;omega,by have:=h.2.1;omega,h.2.2⟩
def SOk.sz {n:Nat} {x:Qa} (h:SOk n x) (hn:n<=4):Sz x:=⟨⟨h.1,λk hk=>⟨(h.2.1 k hk).1,λf hf=>((h.2.1 k hk).2.1 f hf).z,(h.2.1 k hk).2.2⟩⟩,⟨h.2.2.1,λm hm=>⟨by have:=(h.2.2.2.1 m hm).1;omega,by have:=(h.2.2.2.1 m hm).2.1;omega,(h.2.2.2.1 m hm).2.2⟩⟩,ZW h.2.2.2.2.1 hn,h.2.2.2.2.2⟩
def QuW {x:Qa} {a h b:Int} (hx:SOk 2 x) (ha:I64 a) (hh:I64 h) (hb:I64 b):Ok (Qgp x a h b) Sz:=by
 have hz:=hx.sz (by decide);obtain⟨x1,x2,x3,x4,x5,x6⟩:=hx;obtain⟨zk,zl,zr⟩:=hz;have sn:∀{l:List Str} {s:Str},s∈l->(∀n∈l,SN n)->SN s:=λh k=>k _ h;unfold Qgp;simp only[Ya,Zk,Nat.zero_add];refine Ok.rm (by omega) (Ok.rm (by omega) (Ok.rm (by omega) ?_));refine Ok.around0 ha λi i0 i1=>Ok.around hh (by decide) λw w0 w1=>?_;refine Ok.bind (P:=λp:List Qh×List Qr×List Qm×Int=>KA p.1/\LA p.2.1/\RA p.2.2.1) (Ok.ite (λ_=>?_) (λ_=>?_)) λp hp=>Ok.mk hp
 ·exact Ok.around hb (by decide) λj j0 j1=>Ok.idx j0 (by simpa using j1) λ_ _ _=>Ok.mk ⟨zk,zl,zr⟩
 refine Ok.bind (P:=λp:List Qr×List Qm×List Qh=>KA p.2.2/\LA p.1/\RA p.2.1) (Ok.ite (λ_=>?_) (λ_=>?_)) λp hp=>Ok.mk hp
 ·refine Ok.bind (P:=KA) (Ok.ite (λhc=>?_) (λ_=>Ok.mk zk)) λp hp=>Ok.mk ⟨hp,zl,zr⟩;have hc':i<x.Xa.length:=Zq hc;exact Ok.around hb (by decide) λj j0 j1=>Ok.idx j0 (by simpa using j1) λ_ hs _=>Ok.idx i0 hc' λk hk _=>Ok.setAt i0 hc' (Ok.mk ⟨by simpa using x1,Qe4 zk.2 (⟨(zk.2 k hk).1,(zk.2 k hk).2.1,sn hs (by simp[SN])⟩)⟩)
 refine Ok.bind (P:=λp:List Qr×List Qm×List Qh=>KA p.2.2/\LA p.1/\RA p.2.1) (Ok.ite (λ_=>?_) (λ_=>?_)) λp hp=>Ok.mk hp
 ·refine Ok.bind (P:=KA) (Ok.ite (λhc=>?_) (λ_=>Ok.mk zk)) λp hp=>Ok.mk ⟨hp,zl,zr⟩;have hc':i<x.Xa.length:=Zq hc;exact Ok.around hb (by decide) λj j0 j1=>Ok.idx j0 (by simpa using j1) λ_ _ _=>Ok.idx i0 hc' λk hk _=>Ok.setAt i0 hc' (Ok.mk ⟨by simpa using x1,Qe4 zk.2 (zk.2 k hk)⟩)
 refine Ok.bind (P:=λp:List Qr×List Qm×List Qh=>KA p.2.2/\LA p.1/\RA p.2.1) (Ok.ite (λ_=>?_) (λ_=>?_)) λp hp=>Ok.mk hp
 ·refine Ok.bind (P:=KA) (Ok.ite (λhc=>?_) (λ_=>Ok.mk zk)) λp hp=>Ok.mk ⟨hp,zl,zr⟩;have hc':i<x.Xa.length:=Zq hc;exact Ok.around hb (by decide) λj j0 j1=>Ok.idx j0 (by simpa using j1) λ_ _ _=>Ok.idx i0 hc' λk hk _=>Ok.setAt i0 hc' (Ok.mk ⟨by simpa using x1,Qe4 zk.2 (zk.2 k hk)⟩)
 refine Ok.bind (P:=λp:List Qh×List Qm×List Qr=>KA p.1/\LA p.2.2/\RA p.2.1) (Ok.ite (λ_=>?_) (λ_=>?_)) λp hp=>Ok.mk hp
 ·refine Ok.bind (P:=LA) (Ok.ite (λhc=>?_) (λ_=>Ok.mk zl)) λp hp=>Ok.mk ⟨zk,hp,zr⟩;have hc':(0:Int)<x.Xd.length:=Zq hc;refine Ok.idx (by decide) hc' λm hm _=>?_;have hm':=x4 m hm;exact Ok.rm (by omega) (Ok.around hb (by decide) λj j0 j1=>Ok.around (Qir _) (by decide) λq q0 q1=>Ok.rm (by simp;omega) (Ok.idx (by decide) hc' λm2 hm2 _=>Ok.setAt (by decide) hc' (Ok.mk ⟨by simpa using x3,Qe4 zl.2 ⟨(zl.2 m2 hm2).1,by simp;omega,(zl.2 m2 hm2).2.2⟩⟩)))
 refine Ok.bind (P:=λp:List Qh×List Qr×List Qm=>KA p.1/\LA p.2.1/\RA p.2.2) (Ok.ite (λ_=>?_) (λ_=>?_)) λp hp=>Ok.mk hp
 ·exact Ok.around hb (by decide) λj j0 j1=>Ok.idx j0 (by simpa using j1) λ_ s1 _=>Ok.around (Qir _) (by decide) λj j0 j1=>Ok.idx j0 (by simpa using j1) λ_ s2 _=>Ok.around (Qir _) (by decide) λj j0 j1=>Ok.idx j0 (by simpa using j1) λ_ s3 _=>Ok.around hb (by decide) λ_ _ _=>Ok.rm (by simp;omega) (Ok.mk ⟨zk,zl,by simp;omega,λy hy=>(ZH.1 hy).elim (x6 y) λhy=>by rw[Zg] at hy;subst hy;exact⟨by simp[SN],sn s1 (by simp[SN]),sn s2 (by simp[SN]),sn s3 (by simp[SN])⟩⟩)
 refine Ok.bind (P:=λp:List Qh×List Qr=>KA p.1/\LA p.2) (Ok.ite (λ_=>?_) (λ_=>?_)) λp hp=>Ok.mk ⟨hp.1,hp.2,zr⟩
 ·refine Ok.bind (P:=LA) (Ok.ite (λhc=>?_) (λ_=>Ok.mk zl)) λp hp=>Ok.mk ⟨zk,hp⟩;have hc':(0:Int)<x.Xd.length:=Zq hc;refine Ok.idx (by decide) hc' λm hm _=>?_;have hm':=x4 m hm;exact Ok.rm (by omega) (Ok.around hb (by decide) λj j0 j1=>Ok.idx j0 (by simpa using j1) λ_ _ _=>Ok.rm (by simp;omega) (Ok.idx (by decide) hc' λm2 hm2 _=>Ok.setAt (by decide) hc' (Ok.mk ⟨by simpa using x3,Qe4 zl.2 ⟨by simp;omega,(zl.2 m2 hm2).2⟩⟩)))
 refine Ok.bind (P:=KA) (Ok.ite (λhc=>?_) (λ_=>Ok.mk zk)) λp hp=>Ok.mk ⟨hp,zl⟩;have hc':i<x.Xa.length:=Zq hc;refine Ok.idx i0 hc' λk hk _=>?_;have hk':=x2 k hk;have hk1:=hk'.1;refine Ok.rm (by omega) (Ok.around0 (Qir _) λj j0 _=>?_);refine Ok.bind (P:=λp:List Qd=>p.length<=14/\∀f∈p,FZ f) (Ok.ite (λhj=>?_) (λ_=>Ok.mk ⟨(zk.2 k hk).1,(zk.2 k hk).2.1⟩)) λfs hfs=>Ok.idx i0 hc' λk2 hk2 _=>Ok.setAt i0 hc' (Ok.mk ⟨by simpa using x1,Qe4 zk.2 ⟨hfs.1,hfs.2,(zk.2 k2 hk2).2.2⟩⟩);have hj':j<k.Xb.length:=Zq hj;exact Ok.idx j0 hj' λf hf _=>(Qpq (hk'.2.1 f hf) (Qir _) hb).bind λg hg=>Ok.setAt j0 hj' (Ok.mk ⟨by simpa using hk1,Qe4 (zk.2 k hk).2.1 hg⟩)
def Qa3 {α:Type} (s:List α) (p:α->Bool):Int:=match s.findIdx? p with | some k=>(k:Int) | none=>-1
def Qeu {α:Type} (s:List α) (p:α->Bool):-1<=Qa3 s p/\Qa3 s p<s.length:=by
 unfold Qa3
 cases h:s.findIdx? p with
 | none=>exact⟨by decide,by show (-1:Int)<_;omega⟩
 | some k=>have:=(Yk.1 h).1;exact⟨by show (-1:Int)<=(k:Int);omega,by show (k:Int)<_;omega⟩
def QbV {α:Type} (s:List α) (p:α->Bool) {body:Int->Option (Int⊕(Unit⊕Int))}
  (hb:∀k (h:k<s.length),body (k:Int)=if p s[k]=true then some (.inr (.inr (k:Int))) else some (.inl ((k+1:Nat):Int))) (he:body (s.length:Int)=some (.inr (.inl ()))):
  Qz body (0:Int)=some (match s.findIdx? p with | some k=>.inr (k:Int) | none=>.inl ()):=by
 obtain⟨q,hq⟩:∃q:Nat->Bool,∀k (h:k<s.length),q k=p s[k]:=⟨λk=>if h:k<s.length then p s[k] else false,λk h=>dif_pos h⟩
 rcases QmZ (ρ:=Unit⊕Int) s.length q (.inl ()) (λk=>.inr (k:Int))
  (λk hk hp=>by rw[hb k hk,Zb (by rw[<-hq k hk,hp];decide)]) (λk hk hp=>by rw[hb k hk,Ze (by rw[<-hq k hk,hp])]) he with⟨k,hk,hp,hj,e⟩ | ⟨hp,e⟩
 ·have:s.findIdx? p=some k:=by
   rw[Yk];refine⟨hk,by rw[<-hq k hk,hp],λj hj'=>?_⟩;have:=hj j hj';rw[hq j (by omega)] at this;simp[this]
  rw[e,this]
 ·have:s.findIdx? p=none:=by
   rw[findIdx?_eq_none_iff];intro x hx;obtain⟨k,hk,rfl⟩:=getElem_of_mem hx;have:=hp k hk
   rwa [hq k hk] at this
  rw[e,this]
section
variable {p:Qh->Bool} {q:Qd->Bool}
def QpT {s:List Qh} {f:Qh->Option Bool} (hs:s.length<=1000000) (hf:∀x∈s,f x=some (p x)):Qbg s f=some (Qa3 s p):=by
 unfold Qbg;rw[QbV s p (λk hk=>?_) ?_]
 ·unfold Qa3;cases s.findIdx? p<;>rfl
 ·rw[Zb (by simp)]
 ·rw[Ze (by simpa using hk),Qaa hk];show (f s[k]).bind _=_;rw[hf _ (Zn hk),QT hk (by omega)];rfl
def QoO {s:List Qd} {f:Qd->Option Bool} (hs:s.length<=1000000) (hf:∀x∈s,f x=some (q x)):Qa9 s f=some (Qa3 s q):=by
 unfold Qa9;rw[QbV s q (λk hk=>?_) ?_]
 ·unfold Qa3;cases s.findIdx? q<;>rfl
 ·rw[Zb (by simp)]
 ·rw[Ze (by simpa using hk),Qaa hk];show (f s[k]).bind _=_;rw[hf _ (Zn hk),QT hk (by omega)];rfl
end
def QR (x:Qa) (n:Str):Int:=Qa3 x.Xa λk=>k.Xi==n
def Qan (k:Qh) (n:Str):Int:=Qa3 k.Xb λf=>f.Xi==n
def Qc8 {x:Qa} {n:Str} (hx:x.Xa.length<=1000000):QbB x n=some (QR x n):=by unfold QbB;rw[QpT (f:=λx0=>Qer x0 n) (p:=λk=>k.Xi==n) hx (λk _=>rfl)];rfl
def Qd1 {k:Qh} {n:Str} (hx:k.Xb.length<=1000000):Qbk k n=some (Qan k n):=by unfold Qbk;rw[QoO (f:=λx0=>QdX x0 n) (q:=λk=>k.Xi==n) hx (λk _=>rfl)];rfl
def field? (x:Qa) (k j:Int):Option Qd:=if 0<=k/\0<=j then x.Xa[k.toNat]?.bind λq=>q.Xb[j.toNat]? else none
def Qds:Qd:=Qd.mk [] [] [] 0 0 0 [] []
def QcT {x:Qa} {k j:Int} {f:Qd} (h:field? x k j=some f):∃q,0<=k/\0<=j/\idx x.Xa k=some q/\idx q.Xb j=some f/\q∈x.Xa/\k<x.Xa.length/\j<q.Xb.length:=by
 unfold field? at h;split at h
 ·rename_i hk;obtain⟨q,h1,h2⟩:=Option.bind_eq_some_iff.1 h;refine⟨q,hk.1,hk.2,by rw[QfR _ hk.1,h1],by rw[QfR _ hk.2,h2],Zo h1,?_,?_⟩
  ·have:=(Zc.1 h1).1;omega
  ·have:=(Zc.1 h2).1;omega
 ·cases h
def Qhg {x:Qa} {k j:Int} {q:Qh} {f:Qd} (hk:0<=k) (hj:0<=j) (h1:idx x.Xa k=some q) (h2:idx q.Xb j=some f):field? x k j=some f:=by rw[QfR _ hk] at h1;rw[QfR _ hj] at h2;unfold field?;rw[Ze ⟨hk,hj⟩,h1];exact h2
def Qb2 {α:Type} {l:List α} {i:Int} (h0:0<=i) (h1:i<l.length):∃v,idx l i=some v/\v∈l:=by
 have hlt:i.toNat<l.length:=by omega
 exact⟨l[i.toNat],by rw[QfR l h0,Zf hlt],Zn hlt⟩
def QlU (x:Qa) (k j:Int):QcR x k j=some (match field? x k j with | some f=>(f,true) | none=>(Qds,false)):=by
 unfold QcR;by_cases hc:(0<=k/\k<x.Xa.length)/\0<=j
 ·obtain⟨⟨h1,h2⟩,h3⟩:=hc;obtain⟨q,hq,_⟩:=Qb2 h1 h2;have c:((decide (k<0)||decide (k>=(x.Xa.length:Int)))||decide (j<0))=false:=by simp;omega
  rw[c,hq];show (if (false||decide (j>=(q.Xb.length:Int)))=true then _ else _)=_;by_cases h4:j<q.Xb.length
  ·obtain⟨f,hf,_⟩:=Qb2 h3 h4;rw[Zb (by simp;omega),Qhg h1 h3 hq hf];show (idx q.Xb j).bind _=_;rw[hf];rfl
  ·rw[Ze (by simp;omega)];have:field? x k j=none:=by
    cases h:field? x k j with
    | none=>rfl
    | some f=>obtain⟨q',_,_,e1,e2,_,_,e3⟩:=QcT h;rw[hq] at e1;cases e1;exact (h4 e3).elim
   rw[this];rfl
 ·have c:((decide (k<0)||decide (k>=(x.Xa.length:Int)))||decide (j<0))=true:=by simp;omega
  rw[c];have:field? x k j=none:=by
   cases h:field? x k j with
   | none=>rfl
   | some f=>obtain⟨q',e1,e2,_,_,_,e3,_⟩:=QcT h;exact (hc ⟨⟨e1,e3⟩,e2⟩).elim
  rw[this];rfl
def Few (x:Qa):Prop:=x.Xa.length<=1000/\∀k∈x.Xa,k.Xb.length<=1000
def Sz.few {x:Qa} (h:Sz x):Few x:=⟨by have:=h.1.1;omega,λk hk=>by have:=(h.1.2 k hk).1;omega⟩
def Qjb (x:Qa) (k:Int) (g:Qd):Int:=if QR x g.Of<k then QR x g.Of else -1
def upIx (x:Qa) (k j:Int):Int:=
 match field? x k j with
 | none=>-1
 | some f=>
  if f.Xh=7\/f.Xh=8 then
   match idx x.Xa k with
   | none=>-1
   | some q=>if Qan q f.Up<j then (match field? x k (Qan q f.Up) with | some g=>if g.Xh=1 then Qjb x k g else -1 | none=>-1) else -1
  else if f.Xh=1 then Qjb x k f else -1
def QsC {x:Qa} {k j:Int} {g:Qd} {self:Qa->Int->Int->Option Int} (hx:Few x) (h:field? x k j=some g) (hg:g.Xh=1):Qdb self x k j=some (Qjb x k g):=by
 unfold Qdb;rw[QlU,h];simp only[Za,Bool.not_true,hg];rw[Zb (by decide),Zb (by decide),Zb (by decide),Qc8 (by have:=hx.1;omega)];simp only[Za,Qjb];by_cases hl:QR x g.Of<k
 ·rw[Ze (by simpa using hl),Ze hl]
 ·rw[Zb (by simpa using hl),Zb hl]
def upS_is {x:Qa} {k j:Int} {self:Qa->Int->Int->Option Int} (hx:Few x) (hs:∀u g,field? x k u=some g->g.Xh=1->self x k u=some (Qjb x k g)):Qdb self x k j=some (upIx x k j):=by
 cases hf:field? x k j with
 | none=>unfold Qdb upIx;rw[QlU,hf];rfl
 | some f=>
  by_cases h1:f.Xh=1
  ·rw[QsC hx hf h1];unfold upIx;rw[hf];simp[h1]
  unfold Qdb upIx;rw[QlU,hf];simp only[Za,Bool.not_true];rw[Zb (by decide)];by_cases c:f.Xh=7\/f.Xh=8
  ·obtain⟨q,hk,hj,hq,hqf,hqm,_,_⟩:=QcT hf;rw[Ze (by simpa using c),Ze c,hq];simp only[Za];rw[Qd1 (by have:=hx.2 q hqm;omega)];simp only[Za];rw[QlU];simp only[Za]
   cases hg:field? x k (Qan q f.Up) with
   | none=>simp
   | some g=>
    simp only;by_cases hu:Qan q f.Up<j
    ·by_cases hg1:g.Xh=1
     ·rw[Ze (by simp[hu,hg1]),hs _ g hg hg1,Ze hu,Ze hg1];rfl
     ·rw[Zb (by simp[hg1]),Ze hu,Zb hg1]
    ·rw[Zb (by simp[hu]),Zb hu]
  ·rw[Zb (by simpa using c),Zb c,Ze (by simpa using h1),Zb h1]
def Qhh {x:Qa} {k j:Int} (hx:Few x):Qdh x k j=some (upIx x k j):=by unfold Qdh;exact upS_is hx λu g h hg=>QsC hx h hg
def QpU (p:Nat->Bool) (k:Nat):((range (k+1)).filter p).map Int.ofNat=if p k=true then ((range k).filter p).map Int.ofNat++[(k:Int)] else ((range k).filter p).map Int.ofNat:=by
 rw[range_succ,filter_append,Yn];by_cases h:p k=true
 ·rw[Ze h];simp[h]
 ·rw[Zb h];simp[h]
def Qrx (p:Nat->Bool) (k:Nat):(((range k).filter p).map Int.ofNat).length<=k:=by rw[ZY];have:=length_filter_le p (range k);simpa using this
def QiD (x:Qa) (o k:Int) (nm:Str) (fs:List Qd) (i:Nat):Bool:=match fs[i]? with | some g=>g.Xh==7&&g.Of==nm&&upIx x o (i:Int)==k | none=>false
def shl (x:Qa) (o k:Int) (nm:Str):List Int:=match idx x.Xa o with | some q=>((range q.Xb.length).filter (QiD x o k nm q.Xb)).map Int.ofNat | none=>[]
def QkP (x:Qa) (k:Int) (f:Qd):Int×List Int:=if f.Xh≠6\/QR x f.Of<=k then (-1,[]) else (QR x f.Of,shl x (QR x f.Of) k f.Xi)
def Qhi (x:Qa) (n:Str):-1<=QR x n/\QR x n<x.Xa.length:=Qeu _ _
def QuX {x:Qa} {k:Int} {f:Qd} (hx:Few x) (hk:0<=k):QfO x k f=some (QkP x k f):=by
 unfold QfO;rw[Qc8 (by have:=hx.1;omega)];simp only[Za];unfold QkP;by_cases c:f.Xh≠6\/QR x f.Of<=k
 ·rw[Ze (by simpa using c),Ze c]
 rw[Zb (by simpa using c),Zb c];have c':k<QR x f.Of:=by
  rcases Int.lt_or_le k (QR x f.Of) with h | h
  ·exact h
  ·exact (c (.inr h)).elim
 obtain⟨q,hq,hqm⟩:=Qb2 (l:=x.Xa) (i:=QR x f.Of) (by omega) (Qhi x f.Of).2;have hl:=hx.2 q hqm;rw[hq];simp only[Za];refine Qkl q.Xb.length (λn=>((n:Int),((range n).filter (QiD x (QR x f.Of) k f.Xi q.Xb)).map Int.ofNat)) _ rfl (λn hn=>?_) (Zb (by simp)) ?_
 ·rw[Ze (by simpa using hn),Qaa hn];simp only[Za];rw[Qhh hx];have e:QiD x (QR x f.Of) k f.Xi q.Xb n=(q.Xb[n].Xh==7&&q.Xb[n].Of==f.Xi&&upIx x (QR x f.Of) (n:Int)==k):=by
   unfold QiD;rw[Zf hn]
  have hle:=Qrx (QiD x (QR x f.Of) k f.Xi q.Xb) n;rw[QpU,e,QT hn (by omega)]
  cases h1:(q.Xb[n].Xh==7&&q.Xb[n].Of==f.Xi) with
  | false=>rfl
  | true=>
   simp only[Sim.opt,Bool.true_and,if_true,beq_self_eq_true,Za]
   cases h2:upIx x (QR x f.Of) (n:Int)==k with
   | false=>rfl
   | true=>rw[Ze rfl,Ze rfl,Qcx (by rw[length_singleton];omega)];rfl
 ·unfold shl;rw[hq]
def QdR {α:Type} (s:List α) (p:α->Bool):decide (Qa3 s p>=0)=s.any p:=by
 unfold Qa3
 cases h:s.findIdx? p with
 | none=>have:=findIdx?_eq_none_iff.1 h;rw[Eq.comm,any_eq_false.2 (λx hx=>by simp[this x hx])];rfl
 | some k=>obtain⟨hk,hp,_⟩:=Yk.1 h;rw[Eq.comm,any_eq_true.2 ⟨_,Zn hk,hp⟩,Eq.comm];exact decide_eq_true (Int.natCast_nonneg k)
def QiY {α:Type} (s:List α) (p:α->Bool):(!s.any λx=>!p x)=s.all p:=by
 induction s with
 | nil=>rfl
 | cons a s ih=>simp only[any_cons,all_cons,Bool.not_or,Bool.not_not,ih]
def QuY {s:List Qr} {f:Qr->Option Bool} {p:Qr->Bool} (hs:s.length<=1000000) (hf:∀x∈s,f x=some (p x)):QcM s f=some (Qa3 s p):=by
 unfold QcM;rw[QbV s p (λk hk=>?_) ?_]
 ·unfold Qa3;cases s.findIdx? p<;>rfl
 ·rw[Zb (by simp)]
 ·rw[Ze (by simpa using hk),Qaa hk];show (f s[k]).bind _=_;rw[hf _ (Zn hk),QT hk (by omega)];rfl
def QpV {s:List Qm} {f:Qm->Option Bool} {p:Qm->Bool} (hs:s.length<=1000000) (hf:∀x∈s,f x=some (p x)):Qbh s f=some (Qa3 s p):=by
 unfold Qbh;rw[QbV s p (λk hk=>?_) ?_]
 ·unfold Qa3;cases s.findIdx? p<;>rfl
 ·rw[Zb (by simp)]
 ·rw[Ze (by simpa using hk),Qaa hk];show (f s[k]).bind _=_;rw[hf _ (Zn hk),QT hk (by omega)];rfl
def QuZ {s:List Int} {f:Int->Option Bool} {p:Int->Bool} (hs:s.length<=1000000) (hf:∀x∈s,f x=some (p x)):QcL s f=some (Qa3 s p):=by
 unfold QcL;rw[QbV s p (λk hk=>?_) ?_]
 ·unfold Qa3;cases s.findIdx? p<;>rfl
 ·rw[Zb (by simp)]
 ·rw[Ze (by simpa using hk),Qaa hk];show (f s[k]).bind _=_;rw[hf _ (Zn hk),QT hk (by omega)];rfl
def Qr7 {s:List Str} {f:Str->Option Bool} {p:Str->Bool} (hs:s.length<=1000000) (hf:∀x∈s,f x=some (p x)):Qcg s f=some (Qa3 s p):=by
 unfold Qcg;rw[QbV s p (λk hk=>?_) ?_]
 ·unfold Qa3;cases s.findIdx? p<;>rfl
 ·rw[Zb (by simp)]
 ·rw[Ze (by simpa using hk),Qaa hk];show (f s[k]).bind _=_;rw[hf _ (Zn hk),QT hk (by omega)];rfl
def Qr8 {s:List Qac} {f:Qac->Option Bool} {p:Qac->Bool} (hs:s.length<=1000000) (hf:∀x∈s,f x=some (p x)):Qch s f=some (Qa3 s p):=by
 unfold Qch;rw[QbV s p (λk hk=>?_) ?_]
 ·unfold Qa3;cases s.findIdx? p<;>rfl
 ·rw[Zb (by simp)]
 ·rw[Ze (by simpa using hk),Qaa hk];show (f s[k]).bind _=_;rw[hf _ (Zn hk),QT hk (by omega)];rfl
def Qry {s:List Qh} {f:Qh->Option Bool} {p:Qh->Bool} (hs:s.length<=1000000) (hf:∀x∈s,f x=some (p x)):Qb5 s f=some (s.any p):=by unfold Qb5;rw[QpT hs hf,<-QdR];rfl
def Qyi {s:List Qh} {f:Qh->Option Bool} {p:Qh->Bool} (hs:s.length<=1000000) (hf:∀x∈s,f x=some (p x)):QeB s f=some (s.all p):=by unfold QeB;rw[Qry (p:=λx=>!p x) hs (λx hx=>by show (f x).bind _=_;rw[hf x hx];rfl),<-QiY];rfl
def Qqm {s:List Qd} {f:Qd->Option Bool} {p:Qd->Bool} (hs:s.length<=1000000) (hf:∀x∈s,f x=some (p x)):QbT s f=some (s.any p):=by unfold QbT;rw[QoO hs hf,<-QdR];rfl
def Qwx {s:List Qd} {f:Qd->Option Bool} {p:Qd->Bool} (hs:s.length<=1000000) (hf:∀x∈s,f x=some (p x)):Qd9 s f=some (s.all p):=by unfold Qd9;rw[Qqm (p:=λx=>!p x) hs (λx hx=>by show (f x).bind _=_;rw[hf x hx];rfl),<-QiY];rfl
def Qkm {s:List Qr} {f:Qr->Option Bool} {p:Qr->Bool} (hs:s.length<=1000000) (hf:∀x∈s,f x=some (p x)):Qbd s f=some (s.any p):=by unfold Qbd;rw[QuY hs hf,<-QdR];rfl
def Qyj {s:List Qr} {f:Qr->Option Bool} {p:Qr->Bool} (hs:s.length<=1000000) (hf:∀x∈s,f x=some (p x)):QeD s f=some (s.all p):=by unfold QeD;rw[Qkm (p:=λx=>!p x) hs (λx hx=>by show (f x).bind _=_;rw[hf x hx];rfl),<-QiY];rfl
def Qkn {s:List Qm} {f:Qm->Option Bool} {p:Qm->Bool} (hs:s.length<=1000000) (hf:∀x∈s,f x=some (p x)):QaP s f=some (s.any p):=by unfold QaP;rw[QpV hs hf,<-QdR];rfl
def Qyk {s:List Qm} {f:Qm->Option Bool} {p:Qm->Bool} (hs:s.length<=1000000) (hf:∀x∈s,f x=some (p x)):QeF s f=some (s.all p):=by unfold QeF;rw[Qkn (p:=λx=>!p x) hs (λx hx=>by show (f x).bind _=_;rw[hf x hx];rfl),<-QiY];rfl
def Qrz {s:List Int} {f:Int->Option Bool} {p:Int->Bool} (hs:s.length<=1000000) (hf:∀x∈s,f x=some (p x)):Qb6 s f=some (s.any p):=by unfold Qb6;rw[QuZ hs hf,<-QdR];rfl
def Qpr {s:List Str} {f:Str->Option Bool} {p:Str->Bool} (hs:s.length<=1000000) (hf:∀x∈s,f x=some (p x)):QbO s f=some (s.any p):=by unfold QbO;rw[Qr7 hs hf,<-QdR];rfl
def Qm0 {s:List Str} {f:Str->Option Bool} {p:Str->Bool} (hs:s.length<=1000000) (hf:∀x∈s,f x=some (p x)):Qc1 s f=some (s.all p):=by unfold Qc1;rw[Qpr (p:=λx=>!p x) hs (λx hx=>by show (f x).bind _=_;rw[hf x hx];rfl),<-QiY];rfl
def Qps {s:List Qac} {f:Qac->Option Bool} {p:Qac->Bool} (hs:s.length<=1000000) (hf:∀x∈s,f x=some (p x)):QbP s f=some (s.any p):=by unfold QbP;rw[Qr8 hs hf,<-QdR];rfl
def Qu0 {s:List Qac} {f:Qac->Option Bool} {p:Qac->Bool} (hs:s.length<=1000000) (hf:∀x∈s,f x=some (p x)):QdQ s f=some (s.all p):=by unfold QdQ;rw[Qps (p:=λx=>!p x) hs (λx hx=>by show (f x).bind _=_;rw[hf x hx];rfl),<-QiY];rfl
def inW (n a b:Int):Bool:=decide (n>=a)&&decide (n<=b)
def QbK {n a b:Int} (h:inW n a b=true):a<=n/\n<=b:=by simpa[inW] using h
def QdJ (c:Int):Bool:=inW c 97 122
def QiE (c:Int):Bool:=inW c 48 57
def Qdk (lo hi a b:Int):Bool:=(decide (lo>=a)&&decide (lo<=hi))&&decide (hi<=b)
def Q7 (s:Str):Bool:=inW (s.length:Int) 1 12&&(QdJ ((s.headD 0).toNat:Int)&&(Q3 s).all λc=>QdJ c||QiE c)
def QfZ (s:Str):Qax s=some (Q7 s):=by
 unfold Qax Q7
 cases s with
 | nil=>rfl
 | cons c s=>
  show (some (inW ((c::s).length:Int) 1 12)).bind _=_;simp only[Za]
  cases h:inW ((c::s).length:Int) 1 12 with
  | false=>rfl
  | true=>
   have hl:=(QbK h).2;rw[show idx (c::s) (0:Int)=some c from rfl];simp only[Sim.opt,Bool.not_true,beq_self_eq_true,if_true,Za];rw[show QeC (c.toNat:Int)=some (QdJ (c.toNat:Int)) from rfl];simp only[Za]
   cases hc:QdJ (c.toNat:Int) with
   | false=>simp[hc]
   | true=>
    rw[Zb (by decide),Qrz (p:=λc=>!(QdJ c||QiE c)) (by simp only[Q3,ZY];omega) (λx _=>?_)]
    ·simp only[Za];rw[QiY];simp[hc]
    ·show (some (QdJ x)).bind _=_;simp only[Za]
     cases h1:QdJ x with
     | true=>rfl
     | false=>show some (true&&!QiE x)=_;rfl
def Qwy {a b:List Str} (ha:a.length<=1000000):Qdg a b=some (decide (a=b)):=by
 unfold Qdg;by_cases hl:a.length=b.length
 ·rw[Zb (by simp[hl])];have:Ok ((Qz (λ(s7:Int)=>((if (decide (s7<(a.length:Int)))=true then (idx a s7).bind λt18=>(idx b s7).bind λt22=>(if (t18 !=t22)=true then (some (.inr (.inr false))) else (some (.inl (i64.wrap (s7+(1:Int)))))) else (some (.inr (.inl ())))):Option ((Int)⊕((Unit)⊕(Bool))))) (0:Int)).bind λ(e8:(Unit)⊕(Bool))=>(match e8 with | .inl _=>(some true) | .inr p26=>(some p26))) (λr=>r=decide (a=b)):=by
   refine Ok.bind (P:=λe:Unit⊕Bool=>(match e with | .inl _=>true | .inr p=>p)=decide (a=b)) (Ok.loop (λm s=>0<=s/\s+m=a.length/\a.take s.toNat=b.take s.toNat) a.length ⟨ZF _,by omega,by simp⟩ λm s hs=>?_) λe he=>by cases e<;>exact Ok.mk he
   obtain⟨h1,h2,h3⟩:=hs;obtain⟨k,rfl⟩:=ZK h1;simp only[Zt] at h3;refine Ok.ite (λhk=>?_) (λhk=>?_)
   ·have hk':k<a.length:=by simpa using hk
    rw[Qaa hk',Qaa (by omega)];simp only[Za];refine Ok.ite (λhne=>Ok.mk ?_) (λheq=>Ok.mk ⟨m - 1,by omega,?_⟩)
    ·show false=_;rw[Eq.comm,Yc];rintro rfl;simp at hne
    ·have heq':a[k]=b[k]:=by simpa using heq
     rw[QT hk' (by omega)];refine⟨by omega,by omega,?_⟩;rw[Zt,Zx hk',Zx (by omega),h3,heq']
   ·have hk':¬k<a.length:=by simpa using hk
    refine Ok.mk ?_;show true=_;rw[ZI (by omega),ZI (by omega)] at h3;simp[h3]
  obtain⟨r,hr,rfl⟩:=this;exact hr
 ·rw[Ze (by simp;omega)];have:a≠b:=λh=>hl (by rw[h]);simp[this]
def eqInt {a b:List Int} (ha:a.length<=1000000):Qea a b=some (decide (a=b)):=by
 unfold Qea;by_cases hl:a.length=b.length
 ·rw[Zb (by simp[hl])];have:Ok ((Qz (λ(s7:Int)=>((if (decide (s7<(a.length:Int)))=true then (idx a s7).bind λt18=>(idx b s7).bind λt22=>(if (t18 !=t22)=true then (some (.inr (.inr false))) else (some (.inl (i64.wrap (s7+(1:Int)))))) else (some (.inr (.inl ())))):Option ((Int)⊕((Unit)⊕(Bool))))) (0:Int)).bind λ(e8:(Unit)⊕(Bool))=>(match e8 with | .inl _=>(some true) | .inr p26=>(some p26))) (λr=>r=decide (a=b)):=by
   refine Ok.bind (P:=λe:Unit⊕Bool=>(match e with | .inl _=>true | .inr p=>p)=decide (a=b)) (Ok.loop (λm s=>0<=s/\s+m=a.length/\a.take s.toNat=b.take s.toNat) a.length ⟨ZF _,by omega,by simp⟩ λm s hs=>?_) λe he=>by cases e<;>exact Ok.mk he
   obtain⟨h1,h2,h3⟩:=hs;obtain⟨k,rfl⟩:=ZK h1;simp only[Zt] at h3;refine Ok.ite (λhk=>?_) (λhk=>?_)
   ·have hk':k<a.length:=by simpa using hk
    rw[Qaa hk',Qaa (by omega)];simp only[Za];refine Ok.ite (λhne=>Ok.mk ?_) (λheq=>Ok.mk ⟨m - 1,by omega,?_⟩)
    ·show false=_;rw[Eq.comm,Yc];rintro rfl;simp at hne
    ·have heq':a[k]=b[k]:=by simpa using heq
     rw[QT hk' (by omega)];refine⟨by omega,by omega,?_⟩;rw[Zt,Zx hk',Zx (by omega),h3,heq']
   ·have hk':¬k<a.length:=by simpa using hk
    refine Ok.mk ?_;show true=_;rw[ZI (by omega),ZI (by omega)] at h3;simp[h3]
  obtain⟨r,hr,rfl⟩:=this;exact hr
 ·rw[Ze (by simp;omega)];have:a≠b:=λh=>hl (by rw[h]);simp[this]
def Qu1 (l:List Int) {k:Nat} (h:k<l.length):(l.take (k+1)).sum=(l.take k).sum+l[k]:=by rw[Zx h,sum_append];simp
def Qh5 (ws:List Str) (gs:List Int):Bool:=(gs.all λg=>inW g 0 1048576)&&(((inW (ws.length:Int) 1 12&&((ws.length:Int)==(gs.length:Int)))&&decide (gs.sum>0))&&ws.all Q7)
def QpW {ws:List Str} {gs:List Int} (hw:ws.length<=1000000) (hg:gs.length<=1000000):QdE ws gs=some (Qh5 ws gs):=by
  have key:Ok (QdE ws gs) (λr=>r=Qh5 ws gs):=by
    unfold QdE;refine Ok.bind (P:=λe:Int⊕Bool=>match e with | .inl s=>(gs.all λg=>inW g 0 1048576)=true/\s=gs.sum | .inr p=>p=false/\(gs.all λg=>inW g 0 1048576)=false)
      (Ok.loop (λm s=>0<=s.1/\s.1+m=gs.length/\((gs.take s.1.toNat).all λg=>inW g 0 1048576)=true/\s.2=(gs.take s.1.toNat).sum/\0<=s.2/\s.2<=s.1 * 1048576) gs.length ⟨ZF _,by dsimp only;omega,by simp,by simp,by simp,by simp⟩ λm s hs=>?_) λe he=>?_
    · obtain⟨i,t⟩:=s;obtain⟨h1,h2,h3,h4,h5,h6⟩:=hs;dsimp only at h1 h2 h3 h4 h5 h6;obtain⟨k,rfl⟩:=ZK h1;simp only[Zt] at h3 h4;refine Ok.ite (λhk=>?_) (λhk=>?_)
      · have hk':k<gs.length:=by simpa using hk
        dsimp only;rw[Qaa hk'];simp only[Za];show Ok ((some (inW gs[k] 0 1048576)).bind _) _;simp only[Za];refine Ok.ite (λhn=>Ok.mk ⟨rfl,?_⟩) (λhy=>Ok.mk ⟨m - 1,by omega,?_⟩)
        · rw[all_eq_false];exact⟨_,Zn hk',by simpa using hn⟩
        · have hy':inW gs[k] 0 1048576=true:=by simpa using hy
          have hb:=QbK hy';dsimp only;rw[QT hk' (by omega),w64 (n:=t+gs[k]) (by omega) (by omega)];refine⟨by omega,by omega,?_,?_,by omega,by omega⟩
          · rw[Zt,Zx hk',all_append,h3];simp[hy']
          · rw[Zt,Qu1 gs hk',h4]
      · have hk':¬k<gs.length:=by simpa using hk
        rw[ZI (by omega)] at h3 h4;exact Ok.mk ⟨h3,h4⟩
    · cases e with
      | inr p=>obtain⟨rfl,hp⟩:=he;refine Ok.mk ?_;unfold Qh5;rw[hp];rfl
      | inl s=>
        obtain⟨hp,rfl⟩:=he;dsimp only;show Ok ((some (inW (ws.length:Int) 1 12)).bind _) _;simp only[Za];rw[Qm0 (p:=Q7) hw (λx _=>QfZ x)];unfold Qh5;rw[hp,Bool.true_and]
        cases (inW (ws.length:Int) 1 12&&((ws.length:Int)==(gs.length:Int)))&&decide (gs.sum>0) with
        | false=>exact Ok.mk rfl
        | true=>exact Ok.mk rfl
  obtain⟨r,hr,rfl⟩:=key;exact hr
def Qhz (f:Qd):Qd:=
  if f.Xh=0 then ⟨f.Xi,[],[],f.Xh,f.Lo,0,[],[]⟩
  else if f.Xh=1\/f.Xh=4\/f.Xh=5 then ⟨f.Xi,f.Of,[],f.Xh,f.Lo,f.Hi,[],[]⟩
  else if f.Xh=2 then ⟨f.Xi,[],[],f.Xh,f.Lo,f.Hi,[],[]⟩
  else if f.Xh=3 then ⟨f.Xi,[],[],f.Xh,0,0,f.Words,f.Xf⟩
  else if f.Xh=6 then ⟨f.Xi,f.Of,[],f.Xh,0,0,[],[]⟩
  else if f.Xh=7 then ⟨f.Xi,f.Of,f.Up,f.Xh,f.Lo,f.Hi,[],[]⟩
  else if f.Xh=8 then ⟨f.Xi,f.Of,f.Up,f.Xh,0,0,[],[]⟩
  else ⟨f.Xi,[],[],f.Xh,0,0,[],[]⟩
def Qyl (f:Qd):Qg8 f=some (Qhz f):=by
  obtain⟨n,o,u,k,lo,hi,w,g⟩:=f;unfold Qg8 Qhz;by_cases h0:k=0
  · subst h0;rfl
  by_cases h1:k=1
  · subst h1;rfl
  by_cases h4:k=4
  · subst h4;rfl
  by_cases h5:k=5
  · subst h5;rfl
  by_cases h2:k=2
  · subst h2;rfl
  by_cases h3:k=3
  · subst h3;rfl
  by_cases h6:k=6
  · subst h6;rfl
  by_cases h7:k=7
  · subst h7;rfl
  by_cases h8:k=8
  · subst h8;rfl
  simp[h0,h1,h2,h3,h4,h5,h6,h7,h8]
def QgP (a b:Qd):Bool:=(((((((a.Xi==b.Xi)&&(a.Of==b.Of))&&(a.Up==b.Up))&&(a.Xh==b.Xh))&&(a.Lo==b.Lo))&&(a.Hi==b.Hi))&&decide (a.Words=b.Words))&&decide (a.Xf=b.Xf)
def QrA {a b:Qd} (h1:a.Words.length<=1000000) (h2:a.Xf.length<=1000000):Qeb a b=some (QgP a b):=by
  unfold Qeb QgP;rw[Qwy h1,eqInt h2]
  cases ((((((a.Xi==b.Xi)&&(a.Of==b.Of))&&(a.Up==b.Up))&&(a.Xh==b.Xh))&&(a.Lo==b.Lo))&&(a.Hi==b.Hi)) with
  | false=>rfl
  | true=>simp only[Sim.opt,Bool.true_and,beq_self_eq_true,if_true,Za];cases decide (a.Words=b.Words)<;>rfl
def Qf9 (f:Qd):Bool:=
  if f.Xh=0 then inW f.Lo (-1048576) 1048576
  else if f.Xh=1 then Q7 f.Of&&Qdk f.Lo f.Hi 0 65536
  else if f.Xh=2 then Qdk f.Lo f.Hi (-1048576) 1048576
  else if f.Xh=3 then Qh5 f.Words f.Xf
  else if f.Xh=4 then ((f.Of==[])||Q7 f.Of)&&Qdk f.Lo f.Hi (-1048576) 1048576
  else if f.Xh=5 then Q7 f.Of&&Qdk f.Lo f.Hi 0 32
  else if f.Xh=6 then Q7 f.Of
  else if f.Xh=7 then (Q7 f.Of&&Q7 f.Up)&&Qdk f.Lo f.Hi 0 1048576
  else if f.Xh=8 then Q7 f.Of&&Q7 f.Up
  else false
def Qa4 (f:Qd):Bool:=(Q7 f.Xi&&QgP f (Qhz f))&&Qf9 f
def Qtu {f:Qd} (h1:f.Words.length<=1000000) (h2:f.Xf.length<=1000000):Qfb f=some (Qa4 f):=by
  unfold Qfb Qa4;rw[QfZ,Qyl];simp only[Za]
  cases Q7 f.Xi with
  | false=>rfl
  | true=>
    simp only[Sim.opt,Bool.not_true,beq_self_eq_true,if_true,Za];rw[QrA h1 h2];simp only[Za]
    cases QgP f (Qhz f) with
    | false=>rfl
    | true=>
      simp only[QfZ,QpW h1 h2,Bool.true_and,Bool.not_true,Bool.or_self];rw[Zb (by decide)];unfold Qf9;by_cases c0:f.Xh=0
      · rw[Ze (by simp[c0]),Ze c0];rfl
      rw[Zb (by simpa using c0),Zb c0];by_cases c1:f.Xh=1
      · rw[Ze (by simp[c1]),Ze c1];cases Q7 f.Of<;>rfl
      rw[Zb (by simpa using c1),Zb c1];by_cases c2:f.Xh=2
      · rw[Ze (by simp[c2]),Ze c2];rfl
      rw[Zb (by simpa using c2),Zb c2];by_cases c3:f.Xh=3
      · rw[Ze (by simp[c3]),Ze c3];rfl
      rw[Zb (by simpa using c3),Zb c3];by_cases c4:f.Xh=4
      · rw[Ze (by simp[c4]),Ze c4];cases (f.Of==[])<;>cases Q7 f.Of<;>rfl
      rw[Zb (by simpa using c4),Zb c4];by_cases c5:f.Xh=5
      · rw[Ze (by simp[c5]),Ze c5];cases Q7 f.Of<;>rfl
      rw[Zb (by simpa using c5),Zb c5];by_cases c6:f.Xh=6
      · rw[Ze (by simp[c6]),Ze c6];rfl
      rw[Zb (by simpa using c6),Zb c6];by_cases c7:f.Xh=7
      · rw[Ze (by simp[c7]),Ze c7];cases Q7 f.Of<;>cases Q7 f.Up<;>rfl
      rw[Zb (by simpa using c7),Zb c7];by_cases c8:f.Xh=8
      · rw[Ze (by simp[c8]),Ze c8];cases Q7 f.Of<;>rfl
      rw[Zb (by simpa using c8),Zb c8]
def Qfz (k:Qh):Bool:=((Q7 k.Xi&&Qdk k.Lo k.Hi 0 65536)&&decide ((k.Xb.length:Int)<=10))&&k.Xb.all Qa4
def Qm1 (l:List Qd):Prop:=l.length<=1000000/\∀f∈l,f.Words.length<=1000000/\f.Xf.length<=1000000
def Qu2 {k:Qh} (h:Qm1 k.Xb):QfK k=some (Qfz k):=by
  unfold QfK Qfz;rw[QfZ,Qwx (p:=Qa4) h.1 (λf hf=>Qtu (h.2 f hf).1 (h.2 f hf).2)];simp only[Za]
  cases Q7 k.Xi with
  | false=>rfl
  | true=>
    show (opt true (some (Qdk k.Lo k.Hi 0 65536)) default).bind _=_;simp only[Sim.opt,Bool.true_and,if_true,Za]
    cases Qdk k.Lo k.Hi 0 65536 with
    | false=>rfl
    | true=>
      cases hd:decide ((k.Xb.length:Int)<=10) with
      | false=>rfl
      | true=>rfl
def QiF (n:Int) (m:Qac):Bool:=inW m.a0 0 (n - 1)&&inW m.a1 0 (n - 1)
def QfA (x:Qr):Bool:=(((Q7 x.Xi&&inW (x.Xe.length:Int) 1 12)&&x.Xe.all Q7)&&decide ((x.Xg.length:Int)<=32))&&x.Xg.all (QiF (x.Xe.length:Int))
def Qu3 {x:Qr} (h1:x.Xe.length<=1000000) (h2:x.Xg.length<=1000000):QfL x=some (QfA x):=by
  have hm:∀m∈x.Xg,QeE m (x.Xe.length:Int)=some (QiF (x.Xe.length:Int) m):=λm _=>by unfold QeE QiF;rw[w64 (by omega) (by omega)];show (some (inW m.a0 0 ((x.Xe.length:Int) - 1))).bind _=_;simp only[Za];cases inW m.a0 0 ((x.Xe.length:Int) - 1)<;>rfl
  unfold QfL QfA;rw[QfZ,Qm0 (p:=Q7) h1 (λs _=>QfZ s),Qu0 (p:=QiF (x.Xe.length:Int)) h2 hm];simp only[Za]
  cases Q7 x.Xi with
  | false=>rfl
  | true=>
    show (opt true (some (inW (x.Xe.length:Int) 1 12)) default).bind _=_;simp only[Sim.opt,Bool.true_and,if_true,Za]
    cases inW (x.Xe.length:Int) 1 12 with
    | false=>rfl
    | true=>
      simp only[Bool.true_and,beq_self_eq_true,if_true,Za]
      cases x.Xe.all Q7 with
      | false=>rfl
      | true=>cases decide ((x.Xg.length:Int)<=32)<;>rfl
def QfB (r:Qm):Bool:=((((Q7 r.Xi&&Q7 r.Xh)&&((r.A==[])||Q7 r.A))&&((r.B==[])||Q7 r.B))&&(r.A++r.B !=[]))&&inW r.N (-1048576) 1048576
def QaE {s:Str} (h:Q7 s=true):s.length<=12:=by unfold Q7 at h;simp only[Zh] at h;have:=(QbK h.1).2;omega
def Qu4 (r:Qm):QfM r=some (QfB r):=by
  have len:∀s:Str,((s==[])||Q7 s)=true->s.length<=12:=λs h=>by
    rcases ZX _ _ |>.mp h with h | h
    · have:s=[]:=by simpa using h
      subst this;simp
    · exact QaE h
  unfold QfM QfB;simp only[QfZ];simp only[Za]
  cases Q7 r.Xi with
  | false=>rfl
  | true=>
    simp only[Sim.opt,Bool.true_and,beq_self_eq_true,if_true,Za]
    cases Q7 r.Xh with
    | false=>rfl
    | true=>
      simp only[Bool.true_and,beq_self_eq_true,Bool.true_and];have la:=len r.A;have lb:=len r.B
      cases ha:(r.A==[])<;>cases hna:Q7 r.A<;>cases hb:(r.B==[])<;>cases hnb:Q7 r.B<;>first
        | rfl
        | (rw[ha,hna] at la;rw[hb,hnb] at lb
           have e:cat (r.A.length+r.B.length)=some ():=Ze (by have:=la rfl;have:=lb rfl;omega);simp only[e,Bool.false_or,Bool.or_false,Bool.true_or,Bool.or_true,Yl,Bool.true_and,Bool.and_self,beq_self_eq_true,if_true,Za];cases (r.A++r.B !=[])<;>rfl)
def QiG:∀(k u:Nat),u<10 ^ (k+1)->(Lib.decDigits u).length<=k+1
 | 0,u,h=>by rw[Lib.decDigits,dif_pos (by simpa using h)];simp
 | k+1,u,h=>by
  rw[Lib.decDigits];split
  ·simp
  ·have:=QiG k (u / 10) (by rw[Nat.pow_succ] at h;omega);rw[Zd,length_singleton];omega
def QcE {n:Int} (h:I64 n):(Lib.itoa n).length<=20:=by
 unfold I64 at h;unfold Lib.itoa;split
 ·have:=QiG 18 n.natAbs (by omega);rw[Zi];omega
 ·have:=QiG 18 n.toNat (by omega);omega
def Qym {n:Int} (h:I64 n):QlO n=some (Lib.itoa n):=Ze h
def Qd2:AnyV->Str
 | .int n=>Lib.itoa n
 | .str s=>s
def VOk:AnyV->Prop
 | .int n=>I64 n
 | .str s=>s.length<=100
def QlV {v:AnyV} (h:VOk v):(Qd2 v).length<=100:=by
 cases v with
 | int n=>have:=QcE h;show (Lib.itoa n).length<=100;omega
 | str s=>exact h
def toks (l:List AnyV):Str:=l.flatMap λv=>32::Qd2 v
def QnW {l:List AnyV} (h:∀v∈l,VOk v):(toks l).length<=l.length * 101:=by
 induction l with
 | nil=>simp[toks]
 | cons v l ih=>have h1:=ih λu hu=>h u (Zy _ hu);have h2:=QlV (h v Zl);have e:toks (v::l)=(32::Qd2 v)++toks l:=rfl;rw[e,Zd,Zi,Zi];omega
def QeQ (w:Str) (l:List AnyV):Str:=w++toks l++[10]
def Qga {a b:Str} (h:a.length+b.length<=68719476736):Qbv a b=some (a++b):=Ze h
def Qj3 {w:Str} {l:List AnyV} (h1:1<=w.length) (h2:w.length<=10) (hl:l.length<=1000) (hv:∀v∈l,VOk v):QaU w l=some (QeQ w l):=by
 have key:Ok (QaU w l) (λr=>r=QeQ w l):=by
  unfold QaU;rw[Qga (by simp;omega)];simp only[Za,Ya];refine Ok.bind (P:=λr=>r=w++toks l) (Ok.loop (λm s=>0<=s.1/\s.1+m=l.length/\s.2=w++toks (l.take s.1.toNat)) l.length ⟨ZF _,by dsimp only;omega,by simp[toks]⟩ λm s hs=>?_) λr hr=>?_
  ·obtain⟨i,t⟩:=s;obtain⟨e1,e2,e3⟩:=hs;dsimp only at e1 e2 e3;obtain⟨k,rfl⟩:=ZK e1;rw[Zt] at e3;subst e3;refine Ok.ite (λhk=>?_) (λhk=>?_)
   ·have hk':k<l.length:=by simpa using hk
    have hvk:=hv _ (Zn hk');have hlen:=QnW (l:=l.take k) λv hm=>hv v (mem_of_mem_take hm);have htl:=QlV hvk;have hlk:(l.take k).length<=1000:=by rw[ZE];omega
    dsimp only;rw[Qaa hk'];simp only[Za];have eb:Qi9 (w++toks (l.take k)) 32=some (w++toks (l.take k)++[32]):=Ze ⟨by decide,by decide,by rw[Zd];omega⟩;rw[eb];simp only[Za];refine Ok.bind (P:=λp=>p=w++toks (l.take k)++[32]++Qd2 l[k]) ?_ λp hp=>Ok.mk ⟨m - 1,by omega,?_⟩
    ·cases hk2:l[k] with
     | int n=>rw[hk2] at hvk htl;show Ok (if true=true then _ else _) _;rw[Ze rfl];show Ok ((QlO n).bind _) _;rw[Qym hvk];simp only[Za];have hi:=QcE hvk;rw[Qga (by simp only[Zd,length_singleton];omega)];exact Ok.mk rfl
     | str s=>rw[hk2] at hvk htl;show Ok (if false=true then _ else ((if true=true then (Qbv (w++toks (l.take k)++[32]) s).bind _ else _)).bind _) _;rw[Zb (by decide),Ze rfl];have hs:s.length<=100:=hvk;rw[Qga (by simp only[Zd,length_singleton];omega)];exact Ok.mk rfl
    ·subst hp;dsimp only;rw[QT hk' (by omega)];refine⟨by omega,by omega,?_⟩;rw[Zt,Zx hk'];simp only[toks,ZN,flatMap_cons,flatMap_nil,Yd,ZC,cons_append,Ya]
   ·have hk':¬k<l.length:=by simpa using hk
    refine Ok.mk ?_;dsimp only;rw[ZI (by omega)]
  ·subst hr;have hlen:=QnW hv;have eb:Qic (w++toks l)=some (w++toks l):=Zb λh=>by
    have:=Zu length h;rw[Zd,Zk] at this;omega
   rw[eb];simp only[Za];exact Ok.cat (by rw[Zd,length_singleton];omega) (Ok.mk rfl)
 obtain⟨r,hr,rfl⟩:=key;exact hr
def Qhj {w:Str} {l:List AnyV} (h2:w.length<=10) (hv:∀v∈l,VOk v):(QeQ w l).length<=11+l.length * 101:=by have:=QnW hv;unfold QeQ;rw[Zd,Zd,length_singleton];omega
def Qbi (s:Str):Str:=if s=[] then [45] else s
def QnX (s:Str):Qd3 s=some (Qbi s):=by
 unfold Qd3 Qhv;have key:∀body:Int->Option (Int⊕(Unit⊕Str)),(body 0=if (s !=[])=true then some (.inr (.inr s)) else some (.inl 1))->body 1=some (.inr (.inr [45]))->
   Qz body 0=some (.inr (Qbi s)):=λbody h0 h1=>by
  rw[Qbc,h0];unfold Qbi;by_cases hs:s=[]
  ·rw[Zb (by simp[hs]),Ze hs];show Qz body 1=_;rw[Qbc,h1]
  ·rw[Ze (by simpa using hs),Zb hs]
 rw[key _ rfl rfl];rfl
def QaW (f:Qd):List AnyV:=
 if f.Xh=0 then [.str f.Xi,.int f.Lo]
 else if f.Xh=2 then [.str f.Xi,.int f.Lo,.int f.Hi]
 else if f.Xh=3 then [.str f.Xi,.int (f.Words.length:Int)]++(f.Words.zip f.Xf).flatMap λp=>[.str p.1,.int p.2]
 else if f.Xh=6 then [.str f.Xi,.str f.Of]
 else if f.Xh=7 then [.str f.Xi,.str f.Up,.str f.Of,.int f.Lo,.int f.Hi]
 else if f.Xh=8 then [.str f.Xi,.str f.Up,.str f.Of]
 else [.str f.Xi,.str (Qbi f.Of),.int f.Lo,.int f.Hi]
def QlW (f:Qd):Str:=Qlk[f.Xh.toNat]?.getD []
def Qfh (f:Qd):Str:=QeQ (QlW f) (QaW f)
def QfS {s:Str} (h:Q7 s=true):VOk (.str s):=by have:=QaE h;show s.length<=100;omega
def QiZ {s:Str} (h:((s==[])||Q7 s)=true):VOk (.str (Qbi s)):=by
 unfold Qbi;by_cases hs:s=[]
 ·rw[Ze hs];show ([45]:Str).length<=100;decide
 ·rw[Zb hs];have:Q7 s=true:=by simpa[hs] using h
  exact QfS this
def Qcb {n:Int} (h:-100000000<=n/\n<=100000000):VOk (.int n):=by show I64 n;unfold I64;omega
def Qu5 {l:List Str} {g:List Int} (h:l.length=g.length) (k:Nat) (hk:k<l.length):(((l.zip g).take k).flatMap λp=>[AnyV.str p.1,AnyV.int p.2])++[AnyV.str l[k],AnyV.int (g[k]'(by omega))]=((l.zip g).take (k+1)).flatMap λp=>[AnyV.str p.1,AnyV.int p.2]:=by rw[Zx (by rw[length_zip];omega),ZN,getElem_zip];rfl
def QpX (l:List (Str×Int)):(l.flatMap λp=>[AnyV.str p.1,AnyV.int p.2]).length=2 * l.length:=by
 induction l with
 | nil=>rfl
 | cons a l ih=>rw[flatMap_cons,Zd,ih];simp;omega
structure Qpt (f:Qd):Prop where
 kind:0<=f.Xh/\f.Xh<=8
 items:∀v∈QaW f,VOk v
 count:(QaW f).length<=30
 pick:f.Xh=3->f.Words.length=f.Xf.length/\f.Words.length<=12
def Qev {lo hi a b:Int} (h:Qdk lo hi a b=true):a<=lo/\lo<=hi/\hi<=b:=by simp only[Qdk,Zh,ZA] at h;omega
def Qjr {f:Qd} (h:Qa4 f=true):Qpt f:=by
 unfold Qa4 at h;simp only[Zh] at h;obtain⟨⟨hn,_⟩,hp⟩:=h;have hnv:=QfS hn;unfold Qf9 at hp;by_cases c0:f.Xh=0
 ·rw[Ze c0] at hp;have e:QaW f=[.str f.Xi,.int f.Lo]:=by unfold QaW;rw[Ze c0]
  refine⟨by omega,?_,by rw[e];simp,λh=>by omega⟩;have:=QbK hp;rw[e];simp only[Zm,Zr,ZJ,ZT,forall_eq];exact⟨hnv,Qcb (by omega)⟩
 rw[Zb c0] at hp;by_cases c1:f.Xh=1
 ·rw[Ze c1] at hp;simp only[Zh] at hp;have e:QaW f=[.str f.Xi,.str (Qbi f.Of),.int f.Lo,.int f.Hi]:=by unfold QaW;simp[c1]
  have:=Qev hp.2;refine⟨by omega,?_,by rw[e];simp,λh=>by omega⟩;rw[e];simp only[Zm,Zr,ZJ,ZT,forall_eq];exact⟨hnv,QiZ (by rw[hp.1];simp),Qcb (by omega),Qcb (by omega)⟩
 rw[Zb c1] at hp;by_cases c2:f.Xh=2
 ·rw[Ze c2] at hp;have e:QaW f=[.str f.Xi,.int f.Lo,.int f.Hi]:=by unfold QaW;simp[c2]
  have:=Qev hp;refine⟨by omega,?_,by rw[e];simp,λh=>by omega⟩;rw[e];simp only[Zm,Zr,ZJ,ZT,forall_eq];exact⟨hnv,Qcb (by omega),Qcb (by omega)⟩
 rw[Zb c2] at hp;by_cases c3:f.Xh=3
 ·rw[Ze c3] at hp;simp only[Qh5,Zh,Zs,Ye] at hp;obtain⟨hg,⟨⟨hw,hl⟩,_⟩,hws⟩:=hp;have hw':=(QbK hw).2;have hl':f.Words.length=f.Xf.length:=by omega
  have e:QaW f=[.str f.Xi,.int (f.Words.length:Int)]++(f.Words.zip f.Xf).flatMap λp=>[.str p.1,.int p.2]:=by unfold QaW;simp[c3]
  refine⟨by omega,?_,?_,λ_=>⟨hl',by omega⟩⟩
  ·rw[e];intro v hv;rcases ZH.1 hv with hv | hv
   ·simp only[Zm,Zr,ZJ] at hv;rcases hv with rfl | rfl
    ·exact hnv
    ·exact Qcb (by omega)
   ·obtain⟨p,hp,hv⟩:=Yh.1 hv;obtain⟨a,b⟩:=p;have hz:=of_mem_zip hp;simp only[Zm,Zr,ZJ] at hv;rcases hv with rfl | rfl
    ·exact QfS (hws _ hz.1)
    ·have:=QbK (hg _ hz.2);exact Qcb (by omega)
  ·rw[e,Zd,QpX,length_zip];simp only[Zi,Zk];omega
 rw[Zb c3] at hp;by_cases c4:f.Xh=4
 ·rw[Ze c4] at hp;simp only[Zh] at hp;have e:QaW f=[.str f.Xi,.str (Qbi f.Of),.int f.Lo,.int f.Hi]:=by unfold QaW;simp[c4]
  have:=Qev hp.2;refine⟨by omega,?_,by rw[e];simp,λh=>by omega⟩;rw[e];simp only[Zm,Zr,ZJ,ZT,forall_eq];exact⟨hnv,QiZ hp.1,Qcb (by omega),Qcb (by omega)⟩
 rw[Zb c4] at hp;by_cases c5:f.Xh=5
 ·rw[Ze c5] at hp;simp only[Zh] at hp;have e:QaW f=[.str f.Xi,.str (Qbi f.Of),.int f.Lo,.int f.Hi]:=by unfold QaW;simp[c5]
  have:=Qev hp.2;refine⟨by omega,?_,by rw[e];simp,λh=>by omega⟩;rw[e];simp only[Zm,Zr,ZJ,ZT,forall_eq];exact⟨hnv,QiZ (by rw[hp.1];simp),Qcb (by omega),Qcb (by omega)⟩
 rw[Zb c5] at hp;by_cases c6:f.Xh=6
 ·rw[Ze c6] at hp;have e:QaW f=[.str f.Xi,.str f.Of]:=by unfold QaW;simp[c6]
  refine⟨by omega,?_,by rw[e];simp,λh=>by omega⟩;rw[e];simp only[Zm,Zr,ZJ,ZT,forall_eq];exact⟨hnv,QfS hp⟩
 rw[Zb c6] at hp;by_cases c7:f.Xh=7
 ·rw[Ze c7] at hp;simp only[Zh] at hp;have e:QaW f=[.str f.Xi,.str f.Up,.str f.Of,.int f.Lo,.int f.Hi]:=by unfold QaW;simp[c7]
  have:=Qev hp.2;refine⟨by omega,?_,by rw[e];simp,λh=>by omega⟩;rw[e];simp only[Zm,Zr,ZJ,ZT,forall_eq];exact⟨hnv,QfS hp.1.2,QfS hp.1.1,Qcb (by omega),Qcb (by omega)⟩
 rw[Zb c7] at hp;by_cases c8:f.Xh=8
 ·rw[Ze c8] at hp;simp only[Zh] at hp;have e:QaW f=[.str f.Xi,.str f.Up,.str f.Of]:=by unfold QaW;simp[c8]
  refine⟨by omega,?_,by rw[e];simp,λh=>by omega⟩;rw[e];simp only[Zm,Zr,ZJ,ZT,forall_eq];exact⟨hnv,QfS hp.2,QfS hp.1⟩
 rw[Zb c8] at hp;cases hp
def QpY {f:Qd} (h:0<=f.Xh/\f.Xh<=8):idx Qlk f.Xh=some (QlW f)/\1<=(QlW f).length/\(QlW f).length<=10:=by
 obtain⟨k,hk⟩:=ZK h.1;have hk8:k<=8:=by omega
 unfold QlW;rw[hk,Qj2,Zt];have:k=0\/k=1\/k=2\/k=3\/k=4\/k=5\/k=6\/k=7\/k=8:=by omega
 rcases this with rfl | rfl | rfl | rfl | rfl | rfl | rfl | rfl | rfl<;>exact⟨rfl,by decide,by decide⟩
def Qwz {f:Qd} (h:Qpt f):Qgq f=some (Qfh f):=by
 obtain⟨e0,w1,w2⟩:=QpY h.kind;have fin:QaU (QlW f) (QaW f)=some (Qfh f):=Qj3 w1 w2 (by have:=h.count;omega) h.items;unfold Qgq;rw[e0];simp only[Za];by_cases c0:f.Xh=0
 ·rw[Ze (by simp[c0])];have e:QaW f=[.str f.Xi,.int f.Lo]:=by unfold QaW;simp[c0]
  rw[<-e,fin];rfl
 rw[Zb (by simpa using c0)];by_cases c2:f.Xh=2
 ·rw[Ze (by simp[c2])];have e:QaW f=[.str f.Xi,.int f.Lo,.int f.Hi]:=by unfold QaW;simp[c2]
  rw[<-e,fin];rfl
 rw[Zb (by simpa using c2)];by_cases c3:f.Xh=3
 ·rw[Ze (by simp[c3])];obtain⟨p1,p2⟩:=h.pick c3;have e:QaW f=[.str f.Xi,.int (f.Words.length:Int)]++(f.Words.zip f.Xf).flatMap λp=>[.str p.1,.int p.2]:=by unfold QaW;simp[c3]
  refine Qkl f.Words.length (λn=>((n:Int),[.str f.Xi,.int (f.Words.length:Int)]++((f.Words.zip f.Xf).take n).flatMap λp=>[.str p.1,.int p.2])) _ (by simp) (λn hn=>?_) (Zb (by simp)) ?_
  ·have hlen:(((f.Words.zip f.Xf).take n).flatMap λp=>[AnyV.str p.1,AnyV.int p.2]).length<=100:=by
    rw[QpX,ZE,length_zip];omega
   rw[Ze (by simpa using hn)];dsimp only;rw[Qaa hn,Qaa (by omega)];simp only[Za];rw[Qcx (by simp only[Zd,Zi,Zk];omega),QT hn (by omega),<-Qu5 p1 n hn,ZC];rfl
  ·dsimp only;rw[ZI (by rw[length_zip];omega),<-e,fin];rfl
 rw[Zb (by simpa using c3)];by_cases c6:f.Xh=6
 ·rw[Ze (by simp[c6])];have e:QaW f=[.str f.Xi,.str f.Of]:=by unfold QaW;simp[c6]
  rw[<-e,fin];rfl
 rw[Zb (by simpa using c6)];by_cases c7:f.Xh=7
 ·rw[Ze (by simp[c7])];have e:QaW f=[.str f.Xi,.str f.Up,.str f.Of,.int f.Lo,.int f.Hi]:=by unfold QaW;simp[c7]
  rw[<-e,fin];rfl
 rw[Zb (by simpa using c7)];by_cases c8:f.Xh=8
 ·rw[Ze (by simp[c8])];have e:QaW f=[.str f.Xi,.str f.Up,.str f.Of]:=by unfold QaW;simp[c8]
  rw[<-e,fin];rfl
 rw[Zb (by simpa using c8),QnX];simp only[Za];have e:QaW f=[.str f.Xi,.str (Qbi f.Of),.int f.Lo,.int f.Hi]:=by unfold QaW;simp[c0,c2,c3,c6,c7,c8]
 rw[<-e,fin];rfl
def Qh6 {f:Qd} (h:Qpt f):(Qfh f).length<=4000:=by have:=Qhj (QpY h.kind).2.2 h.items;have:=h.count;unfold Qfh;omega
def Qd5 {α:Type} (l:List α) (g:α->Str) (B:Nat) (hB:∀a∈l,(g a).length<=B) (a0:Str) {body:Int×Str->Option ((Int×Str)⊕Str)}
  (hs:∀k (h:k<l.length) acc,acc.length<=a0.length+k * B->body ((k:Int),acc)=some (.inl (((k+1:Nat):Int),acc++g l[k]))) (he:∀acc,body ((l.length:Int),acc)=some (.inr acc)):
  Qz body ((0:Int),a0)=some (a0++l.flatMap g):=by
 have hlen:∀n,n<=l.length->((l.take n).flatMap g).length<=n * B:=λn=>by
  induction n with
  | zero=>intro _;simp
  | succ n ih=>intro hn;rw[Zx (by omega),ZN,Zd,Nat.succ_mul];have h1:=ih (by omega);have h2:=hB _ (Zn (show n<l.length by omega));simp only[flatMap_cons,flatMap_nil,Yd];omega
 have h:=QgD (body:=body) l.length (λn=>((n:Int),a0++(l.take n).flatMap g)) (a0++l.flatMap g) (λk hk=>?_) ?_
 ·simpa using h
 ·rw[hs k hk _ (by rw[Zd];have:=hlen k (by omega);omega),Zx hk,ZN];simp
 ·rw[he];simp
def QfT (k:Qh):Str:=QeQ [107,105,110,100] [.str k.Xi,.int k.Lo,.int k.Hi]++k.Xb.flatMap Qfh
def Qis (m:Qac):Str:=QeQ [109,111,118,101] [.int m.a0,.int m.a1]
def QgE (l:Qr):Str:=QeQ [108,105,102,101] ([.str l.Xi,.int (l.Xe.length:Int)]++l.Xe.map .str)++l.Xg.flatMap Qis
def Qf0 (r:Qm):List AnyV:=[.str r.Xi,.str r.Xh,.str (Qbi r.A),.str (Qbi r.B),.int r.N]
def Qi0 (r:Qm):Str:=QeQ [114,117,108,101] (Qf0 r)
def srcS (x:Qa):Str:=QeQ [115,99,104,101,109,97] [.int x.Version]++x.Xa.flatMap QfT++x.Xd.flatMap QgE++x.Xc.flatMap Qi0
def QrB {k:Qh} (h:Qfz k=true):(∀v∈[AnyV.str k.Xi,.int k.Lo,.int k.Hi],VOk v)/\k.Xb.length<=10/\∀f∈k.Xb,Qa4 f=true:=by simp only[Qfz,Zh,Zs,ZA] at h;obtain⟨⟨⟨h1,h2⟩,h3⟩,h4⟩:=h;have:=Qev h2;refine⟨?_,by omega,h4⟩;simp only[Zm,Zr,ZJ,ZT,forall_eq];exact⟨QfS h1,Qcb (by omega),Qcb (by omega)⟩
def Qhk {α:Type} {l:List α} {g:α->Str} {B:Nat} (h:∀a∈l,(g a).length<=B):(l.flatMap g).length<=l.length * B:=by
 induction l with
 | nil=>simp
 | cons a l ih=>have h1:=ih λb hb=>h b (Zy _ hb);have h2:=h a Zl;rw[flatMap_cons,Zd,Zi,Nat.succ_mul];omega
def Qk6 {k:Qh} (h:Qfz k=true):(QfT k).length<=50000:=by obtain⟨h1,h2,h3⟩:=QrB h;have e1:=Qhj (w:=[107,105,110,100]) (by decide) h1;have e2:=Qhk (l:=k.Xb) (g:=Qfh) (B:=4000) λf hf=>Qh6 (Qjr (h3 f hf));unfold QfT;rw[Zd];simp only[Zi,Zk] at e1;omega
def Qu6 {n:Int} (hn:n<=1000) {m:Qac} (h:QiF n m=true):∀v∈[AnyV.int m.a0,.int m.a1],VOk v:=by simp only[QiF,Zh] at h;have h1:=QbK h.1;have h2:=QbK h.2;simp only[Zm,Zr,ZJ,ZT,forall_eq];exact⟨Qcb (by omega),Qcb (by omega)⟩
def Qu7 {l:Qr} (h:QfA l=true):(∀v∈[AnyV.str l.Xi,.int (l.Xe.length:Int)]++l.Xe.map .str,VOk v)/\l.Xe.length<=12/\l.Xg.length<=32/\∀m∈l.Xg,∀v∈[AnyV.int m.a0,.int m.a1],VOk v:=by
 simp only[QfA,Zh,Zs,ZA] at h;obtain⟨⟨⟨⟨h1,h2⟩,h3⟩,h4⟩,h5⟩:=h;have hl:=(QbK h2).2;refine⟨λv hv=>?_,by omega,by omega,λm hm=>Qu6 (by omega) (h5 m hm)⟩;rcases ZH.1 hv with hv | hv
 ·simp only[Zm,Zr,ZJ] at hv;rcases hv with rfl | rfl
  ·exact QfS h1
  ·exact Qcb (by omega)
 ·obtain⟨s,hs,rfl⟩:=ZM.1 hv;exact QfS (h3 s hs)
def Qjc {m:Qac} (h:∀v∈[AnyV.int m.a0,.int m.a1],VOk v):(Qis m).length<=300:=by have:=Qhj (w:=[109,111,118,101]) (by decide) h;simp only[Zi,Zk] at this;unfold Qis;omega
def Qjd {l:Qr} (h:QfA l=true):(QgE l).length<=20000:=by obtain⟨h1,h2,h3,h4⟩:=Qu7 h;have e1:=Qhj (w:=[108,105,102,101]) (by decide) h1;have e2:=Qhk (l:=l.Xg) (g:=Qis) (B:=300) λm hm=>Qjc (h4 m hm);unfold QgE;rw[Zd];simp only[Zd,Zi,Zk,ZY] at e1;omega
def Qu8 {r:Qm} (h:QfB r=true):∀v∈Qf0 r,VOk v:=by simp only[QfB,Zh] at h;obtain⟨⟨⟨⟨⟨h1,h2⟩,h3⟩,h4⟩,_⟩,h5⟩:=h;have:=QbK h5;unfold Qf0;simp only[Zm,Zr,ZJ,ZT,forall_eq];exact⟨QfS h1,QfS h2,QiZ h3,QiZ h4,Qcb (by omega)⟩
def Qk7 {r:Qm} (h:QfB r=true):(Qi0 r).length<=1000:=by have:=Qhj (w:=[114,117,108,101]) (by decide) (Qu8 h);have e:(Qf0 r).length=5:=rfl;unfold Qi0;omega
def Qhl (x:Qa):Bool:=((((inW x.Version 0 1048576&&decide ((x.Xa.length:Int)<=6))&&decide ((x.Xd.length:Int)<=6))&&decide ((x.Xc.length:Int)<=16))&&x.Xa.all Qfz)&&x.Xd.all QfA&&x.Xc.all QfB
structure Qpu (x:Qa):Prop where
 version:0<=x.Version/\x.Version<=1048576
 kinds:x.Xa.length<=6
 lives:x.Xd.length<=6
 rules:x.Xc.length<=16
 kind:∀k∈x.Xa,Qfz k=true
 life:∀l∈x.Xd,QfA l=true
 rule:∀r∈x.Xc,QfB r=true
def Qm2 {x:Qa} (h:Qhl x=true):Qpu x:=by simp only[Qhl,Zh,Zs,ZA] at h;obtain⟨⟨⟨⟨⟨⟨h1,h2⟩,h3⟩,h4⟩,h5⟩,h6⟩,h7⟩:=h;exact⟨QbK h1,by omega,by omega,by omega,h5,h6,h7⟩
def Qu9 {x:Qa} (h:Qpu x):QfN x=some (srcS x):=by
 have hv:=h.version;have v0:∀v∈[AnyV.int x.Version],VOk v:=by simp only[Zm,Zr,ZJ,forall_eq];exact Qcb (by omega)
 have l0:=Qhj (w:=[115,99,104,101,109,97]) (by decide) v0;simp only[Zi,Zk] at l0;have lk:=Qhk (l:=x.Xa) (g:=QfT) (B:=50000) λk hk=>Qk6 (h.kind k hk);have ll:=Qhk (l:=x.Xd) (g:=QgE) (B:=20000) λk hk=>Qjd (h.life k hk);have nk:=h.kinds;have nl:=h.lives;have nr:=h.rules;unfold QfN;rw[Qj3 (by decide) (by decide) (by simp) v0];simp only[Za];rw[Qga (by rw[Zk];omega)];simp only[Za,Ya];rw[Qd5 x.Xa QfT 50000 (λk hk=>Qk6 (h.kind k hk)) (QeQ [115,99,104,101,109,97] [.int x.Version]) (λk hk acc hacc=>?_) (λacc=>Zb (by simp))]
 ·simp only[Za];rw[Qd5 x.Xd QgE 20000 (λk hk=>Qjd (h.life k hk)) (QeQ [115,99,104,101,109,97] [.int x.Version]++x.Xa.flatMap QfT) (λk hk acc hacc=>?_) (λacc=>Zb (by simp))]
  ·simp only[Za];rw[Qd5 x.Xc Qi0 1000 (λk hk=>Qk7 (h.rule k hk)) (QeQ [115,99,104,101,109,97] [.int x.Version]++x.Xa.flatMap QfT++x.Xd.flatMap QgE) (λk hk acc hacc=>?_) (λacc=>Zb (by simp))]
   ·simp only[Za];have e:Qic (srcS x)=some (srcS x):=Zb λh=>by
     have:=Zu length h;simp only[srcS,QeQ,Zd,Zi,Zk] at this;omega
    show (Qic (srcS x)).bind _=_;rw[e];rfl
   ·have hr:=h.rule _ (Zn hk);have hrl:=Qk7 hr;rw[Ze (by simpa using hk)];dsimp only;rw[Qaa hk];simp only[Za];rw[QnX,QnX];simp only[Za];show (QaU [114,117,108,101] (Qf0 x.Xc[k])).bind _=_;rw[Qj3 (by decide) (by decide) (by simp[Qf0]) (Qu8 hr)];simp only[Za];rw[Zd,Zd] at hacc;rw[Qga (by show acc.length+(Qi0 x.Xc[k]).length<=_;omega),QT hk (by omega)];rfl
  ·have hl:=h.life _ (Zn hk);obtain⟨w1,w2,w3,w4⟩:=Qu7 hl;have hll:=Qjd hl;rw[Ze (by simpa using hk)];dsimp only;rw[Qaa hk];simp only[Za];have hst:∀n,n<=x.Xd[k].Xe.length->([AnyV.str x.Xd[k].Xi,.int (x.Xd[k].Xe.length:Int)]++(x.Xd[k].Xe.take n).map AnyV.str).length<=100:=λn hn=>by
    simp only[Zd,Zi,Zk,ZY,ZE];omega
   refine Qkl x.Xd[k].Xe.length (λn=>((n:Int),[AnyV.str x.Xd[k].Xi,.int (x.Xd[k].Xe.length:Int)]++(x.Xd[k].Xe.take n).map AnyV.str)) _ (by simp) (λn hn=>?_) (Zb (by simp)) ?_
   ·rw[Ze (by simpa using hn)];dsimp only;rw[Qaa hn];simp only[Za];rw[Qcx (by have:=hst n (by omega);rw[length_singleton];omega),QT hn (by omega),Zx hn,Yn,<-ZC];rfl
   ·dsimp only;rw[ZI (Zp _),Qj3 (by decide) (by decide) (by have:=hst _ (Zp _);rw[ZI (Zp _)] at this;omega) w1];simp only[Za];have l1:=Qhj (w:=[108,105,102,101]) (by decide) w1;simp only[Zd,Zi,Zk,ZY] at l1;rw[Zd] at hacc;rw[Qga (by omega)];simp only[Za];rw[Qd5 x.Xd[k].Xg Qis 300 (λm hm=>Qjc (w4 m hm)) _ (λq hq acc2 hacc2=>?_) (λacc=>Zb (by simp))]
    ·simp only[Za];rw[QT hk (by omega)];simp[QgE]
    ·have hm:=w4 _ (Zn hq);have hml:=Qjc hm;rw[Ze (by simpa using hq)];dsimp only;rw[Qaa hq];simp only[Za];rw[Qj3 (by decide) (by decide) (by simp) hm];simp only[Za];rw[Zd] at hacc2;rw[Qga (by show acc2.length+(Qis x.Xd[k].Xg[q]).length<=_;omega),QT hq (by omega)];rfl
 ·have hk':=h.kind _ (Zn hk);obtain⟨w1,w2,w3⟩:=QrB hk';have l1:=Qhj (w:=[107,105,110,100]) (by decide) w1;simp only[Zi,Zk] at l1;rw[Ze (by simpa using hk)];dsimp only;rw[Qaa hk];simp only[Za];rw[Qj3 (by decide) (by decide) (by simp) w1];simp only[Za];rw[Qga (by omega)];simp only[Za];rw[Qd5 x.Xa[k].Xb Qfh 4000 (λf hf=>Qh6 (Qjr (w3 f hf))) _ (λq hq acc2 hacc2=>?_) (λacc=>Zb (by simp))]
  ·simp only[Za];rw[QT hk (by omega)];simp[QfT]
  ·have hf:=Qjr (w3 _ (Zn hq));have hfl:=Qh6 hf;rw[Ze (by simpa using hq)];dsimp only;rw[Qaa hq];simp only[Za];rw[Qwz hf];simp only[Za];rw[Zd] at hacc2;rw[Qga (by omega),QT hq (by omega)];rfl
def QfU (x:Qa):Int:=if Qhl x=true then (if (srcS x).length>8192 then 4 else 0) else 1
def Fine (x:Qa):Prop:=(x.Xa.length<=1000000/\∀k∈x.Xa,Qm1 k.Xb)/\(x.Xd.length<=1000000/\∀l∈x.Xd,l.Xe.length<=1000000/\l.Xg.length<=1000000)/\x.Xc.length<=1000000
def Sz.fine {x:Qa} (h:Sz x):Fine x:=by
 obtain⟨⟨a1,a2⟩,⟨b1,b2⟩,c,_⟩:=h;refine⟨⟨by omega,λk hk=>⟨by have:=(a2 k hk).1;omega,λf hf=>?_⟩⟩,⟨by omega,λl hl=>?_⟩,by omega⟩
 ·have:=(a2 k hk).2.1 f hf;exact⟨by have:=this.1;omega,by have:=this.2.1;omega⟩
 ·have:=b2 l hl;exact⟨by omega,by omega⟩
def QwA {x:Qa} (h:Fine x):Qgr x=some (QfU x):=by
 obtain⟨⟨a1,a2⟩,⟨b1,b2⟩,c⟩:=h;unfold Qgr;rw[Qyi (p:=Qfz) a1 (λk hk=>Qu2 (a2 k hk)),Qyj (p:=QfA) b1 (λl hl=>Qu3 (b2 l hl).1 (b2 l hl).2),Qyk (p:=QfB) c (λr _=>Qu4 r)];show (some (inW x.Version 0 1048576)).bind _=_;simp only[Za];have n1:∀(n:Nat) (m:Int),decide ((n:Int)>m)=!decide ((n:Int)<=m):=λn m=>by
  by_cases h:(n:Int)<=m
  ·rw[decide_eq_true h,decide_eq_false (by omega)];rfl
  ·rw[decide_eq_false h,decide_eq_true (by omega)];rfl
 rw[n1,n1,n1];unfold QfU
 cases hv:Qhl x with
 | true=>
  have hs:=Qu9 (Qm2 hv);simp only[Qhl,Zh] at hv;obtain⟨⟨⟨⟨⟨⟨h1,h2⟩,h3⟩,h4⟩,h5⟩,h6⟩,h7⟩:=hv;simp only[h1,h2,h3,h4,h5,h6,h7,Sim.opt,Bool.not_true,Bool.or_self,beq_self_eq_true,if_true,Za];rw[Zb (by decide),hs];simp only[Za];by_cases hl:(srcS x).length>8192
  ·rw[Ze (by simp;omega),Ze hl]
  ·rw[Zb (by simp;omega),Zb hl]
 | false=>
  rw[Zb (by decide)];unfold Qhl at hv
  cases h1:inW x.Version 0 1048576<;>cases h2:decide ((x.Xa.length:Int)<=6)<;>cases h3:decide ((x.Xd.length:Int)<=6)<;>cases h4:decide ((x.Xc.length:Int)<=16)<;>
   cases h5:x.Xa.all Qfz<;>cases h6:x.Xd.all QfA<;>cases h7:x.Xc.all QfB<;>first | rfl | (rw[h1,h2,h3,h4,h5,h6,h7] at hv;cases hv)
def QbE:List Qat->Int
 | []=>0
 | f::r=>if f.is=true then f.code else QbE r
def Qie {l:List Qat} (hl:l.length<=1000):QaG l=some (QbE l):=by
 have key:Ok (QaG l) (λr=>r=QbE l):=by
  unfold QaG;refine Ok.bind (P:=λe:Unit⊕Int=>(match e with | .inl _=>0 | .inr r=>r)=QbE l) (Ok.loop (λm s=>0<=s/\s+m=l.length/\QbE (l.drop s.toNat)=QbE l) l.length ⟨ZF _,by omega,by simp⟩ λm s hs=>?_) λe he=>by cases e<;>exact Ok.mk he
  obtain⟨h1,h2,h3⟩:=hs;obtain⟨k,rfl⟩:=ZK h1;rw[Zt] at h3;refine Ok.ite (λhk=>?_) (λhk=>?_)
  ·have hk':k<l.length:=by simpa using hk
   rw[Qaa hk'];simp only[Za];rw[drop_eq_getElem_cons hk',QbE] at h3;refine Ok.ite (λhi=>Ok.mk ?_) (λhi=>Ok.mk ⟨m - 1,by omega,?_⟩)
   ·rw[Ze hi] at h3;exact h3
   ·rw[Zb (by rw[hi];decide)] at h3;rw[QT hk' (by omega)];exact⟨by omega,by omega,by rw[Zt];exact h3⟩
  ·have hk':¬k<l.length:=by simpa using hk
   rw[drop_of_length_le (by omega)] at h3;exact Ok.mk h3
 obtain⟨r,hr,rfl⟩:=key;exact hr
def topS (x:Qa) (k j:Int) (f:Qd):Qd×Bool:=
 if upIx x k j<0 then (Qds,false)
 else match idx x.Xa (upIx x k j) with
  | none=>(Qds,false)
  | some q=>match field? x (upIx x k j) (Qan q f.Of) with | some g=>(g,true) | none=>(Qds,false)
def Qva (g:Qd):Bool:=((((g.Xh==2)||(g.Xh==3))||(g.Xh==4))||(g.Xh==5))||(g.Xh==8)
def QlX (x:Qa) (q:Qh) (k j:Int) (f:Qd):Int:=
 if f.Xh=0 then QbE [⟨decide (j>0),13⟩]
 else if f.Xh=1 then QbE [⟨decide (upIx x k j<0),12⟩]
 else if f.Xh=4 then QbE [⟨(f.Of !=[])&&(((decide (Qan q f.Of<0))||(decide (Qan q f.Of>=j)))||((match field? x k (Qan q f.Of) with | some g=>(g,true) | none=>(Qds,false)).1.Xh !=4)),12⟩]
 else if f.Xh=5 then QbE [⟨!(x.Xd.any λl=>l.Xi==f.Of),12⟩]
 else if f.Xh=6 then QbE [⟨decide ((QkP x k f).1<0),12⟩,⟨((QkP x k f).2.length:Int) !=1,11⟩]
 else if f.Xh=7 then QbE [⟨decide (upIx x k j<0),12⟩,⟨((!(topS x k j f).2)||((topS x k j f).1.Xh !=6))||(QR x (topS x k j f).1.Of !=k),13⟩]
 else if f.Xh=8 then QbE [⟨decide (upIx x k j<0),12⟩,⟨(!(topS x k j f).2)||(!Qva (topS x k j f).1),13⟩]
 else 0
def QsD (x:Qa) (k j:Int) (hk:0<=k):upIx x k j<k/\-1<=upIx x k j:=by
 have hr:∀g,Qjb x k g<k/\-1<=Qjb x k g:=λg=>by have:=Qhi x g.Of;unfold Qjb;split<;>omega
 unfold upIx
 cases field? x k j with
 | none=>exact⟨by dsimp only;omega,by dsimp only;omega⟩
 | some f=>
  dsimp only;split
  ·split
   ·omega
   ·split
    ·split
     ·split
      ·exact hr _
      ·omega
     ·omega
    ·omega
  ·split
   ·exact hr _
   ·omega
def Qvb {x:Qa} {k j:Int} {f:Qd} (hx:Few x) (hk:0<=k) (hkl:k<x.Xa.length):QdF ⟨x,k,j,f⟩=some (topS x k j f):=by
 unfold QdF topS;rw[Qhh hx];simp only[Za];by_cases hu:upIx x k j<0
 ·rw[Ze (by simpa using hu),Ze hu];rfl
 ·rw[Zb (by simpa using hu),Zb hu];have h1:=QsD x k j hk;obtain⟨q,hq,hqm⟩:=Qb2 (l:=x.Xa) (i:=upIx x k j) (by omega) (by omega);rw[hq];simp only[Za];rw[Qd1 (by have:=hx.2 q hqm;omega)];simp only[Za];rw[QlU];cases field? x (upIx x k j) (Qan q f.Of)<;>rfl
def Qpv {x:Qa} {k j:Int} {f:Qd} (hx:Few x):QcA ⟨x,k,j,f⟩=some (decide (upIx x k j<0)):=by unfold QcA;rw[Qhh hx];rfl
def QwB {x:Qa} {k j:Int} {q:Qh} {f:Qd} (hx:Few x) (hl:x.Xd.length<=1000) (hq:idx x.Xa k=some q) (hf:field? x k j=some f) (h:(QbZ f.Xh).isSome=true):Qnb (QcU.mk (QbZ f.Xh)).check ⟨x,k,j,f⟩=some (QlX x q k j f):=by
 obtain⟨q',hk,hj,hq',hqf,hqm,hkl,hjl⟩:=QcT hf;rw[hq] at hq';cases hq';have one:∀a,QaG [a]=some (QbE [a]):=λa=>Qie (by simp);have two:∀a b,QaG [a,b]=some (QbE [a,b]):=λa b=>Qie (by simp);unfold QlX;dsimp only;by_cases c0:f.Xh=0
 ·rw[Ze c0,c0];show QeG _=_;unfold QeG;rw[one];rfl
 rw[Zb c0];by_cases c1:f.Xh=1
 ·rw[Ze c1,c1];show QeH _=_;unfold QeH;rw[Qpv hx];simp only[Za];rw[one];rfl
 rw[Zb c1];by_cases c4:f.Xh=4
 ·rw[Ze c4,c4];show QeI _=_;unfold QeI;dsimp only;rw[hq];simp only[Za];rw[Qd1 (by have:=hx.2 q hqm;omega)];simp only[Za];rw[QlU];simp only[Za];rw[one];rfl
 rw[Zb c4];by_cases c5:f.Xh=5
 ·rw[Ze c5,c5];show QeJ _=_;unfold QeJ;dsimp only;rw[Qkm (s:=x.Xd) (f:=λx0=>Qfc x0 ⟨x,k,j,f⟩) (p:=λl=>l.Xi==f.Of) (by omega) (λl _=>rfl)];simp only[Za];rw[one];rfl
 rw[Zb c5];by_cases c6:f.Xh=6
 ·rw[Ze c6];show Qnb (QbZ f.Xh) _=_;rw[c6];show QeK _=_;unfold QeK;dsimp only;rw[QuX hx hk];simp only[Za];rw[two];rfl
 rw[Zb c6];by_cases c7:f.Xh=7
 ·rw[Ze c7];show Qnb (QbZ f.Xh) _=_;rw[c7];show QeL _=_;unfold QeL;rw[Qvb hx hk hkl,Qpv hx];simp only[Za];rw[Qc8 (by have:=hx.1;omega)]
  cases hc:((!(topS x k j f).2)||((topS x k j f).1.Xh !=6)) with
  | true=>simp only[Sim.opt,Bool.true_or];show (QaG _).bind _=_;rw[two];rfl
  | false=>simp only[Sim.opt,beq_self_eq_true,if_true,Za];rw[two];rfl
 rw[Zb c7];by_cases c8:f.Xh=8
 ·rw[Ze c8];show Qnb (QbZ f.Xh) _=_;rw[c8];show QeM _=_;unfold QeM;rw[Qvb hx hk hkl,Qpv hx];simp only[Za];rw[two];rfl
 rw[QbZ,Zb c0,Zb c1,Zb c4,Zb c5,Zb c6,Zb c7,Zb c8] at h;cases h
def QwC {x:Qa} {k j:Int} {q:Qh} {f:Qd} (h:(QbZ f.Xh).isSome=false):QlX x q k j f=0:=by
 unfold QlX;by_cases c0:f.Xh=0
 ·rw[c0] at h;cases h
 by_cases c1:f.Xh=1
 ·rw[c1] at h;cases h
 by_cases c4:f.Xh=4
 ·rw[c4] at h;cases h
 by_cases c5:f.Xh=5
 ·rw[c5] at h;cases h
 by_cases c6:f.Xh=6
 ·rw[c6] at h;cases h
 by_cases c7:f.Xh=7
 ·rw[c7] at h;cases h
 by_cases c8:f.Xh=8
 ·rw[c8] at h;cases h
 rw[Zb c0,Zb c1,Zb c4,Zb c5,Zb c6,Zb c7,Zb c8]
def QjO (x:Qa) (i:Int) (q:Qh):Int:=QbE [⟨decide (QR x q.Xi<i),7⟩,⟨((q.Xb.length:Int)==0)||((q.Xb.headD Qds).Xh !=0),11⟩]
def Qyn {x:Qa} {i:Int} {q:Qh} (hx:Few x) (hq:idx x.Xa i=some q):Qhb x i=some (QjO x i q):=by
 unfold Qhb QjO;rw[hq];simp only[Za];rw[Qc8 (by have:=hx.1;omega)];simp only[Za]
 cases hf:q.Xb with
 | nil=>show (QaG _).bind _=_;rw[Qie (by simp)];rfl
 | cons f fs=>
  have e:(((f::fs).length:Int)==0)=false:=by simp;omega
  rw[e];simp only[Sim.opt,beq_self_eq_true,if_true];rw[show idx (f::fs) (0:Int)=some f from rfl];simp only[Za];rw[Qie (by simp)];rfl
def Qm3 (x:Qa) (k:Int) (n:Str):Qd×Bool:=match idx x.Xa k with | none=>(Qds,false) | some q=>match field? x k (Qan q n) with | some g=>(g,true) | none=>(Qds,false)
def Qdu (x:Qa) (k:Int) (n:Str):Bool:=!((n==[])||decide (k<0))&&!(Qm3 x k n).2
def Qdl (x:Qa) (k:Int) (n:Str):Bool:=!((n==[])||decide (k<0))&&(((Qm3 x k n).1.Xh !=2)&&((Qm3 x k n).1.Xh !=4))
def QoP (x:Qa) (i:Nat) (r:Qm):Int:=QbE [⟨(x.Xc.take i).any λs=>s.Xi==r.Xi,7⟩,⟨(decide (QR x r.Xh<0)||Qdu x (QR x r.Xh) r.A)||Qdu x (QR x r.Xh) r.B,12⟩,⟨Qdl x (QR x r.Xh) r.A||Qdl x (QR x r.Xh) r.B,13⟩,⟨r.A==r.B,1⟩]
def QpZ {β:Type} {x:Qa} {k:Int} {n:Str} {a b:Bool} (hx:Few x) (hk:k<x.Xa.length) (g:Bool×Bool->β):
  (if ((n==([]:Str))||(decide (k<0)))=true then some (g (a,b)) else (idx x.Xa k).bind λt53=>(Qbk t53 n).bind λt56=>(QcR x k t56).bind λt57=>some (g ((a||(!t57.2)),(b||((t57.1.Xh !=2)&&(t57.1.Xh !=4))))))=some (g (a||Qdu x k n,b||Qdl x k n)):=by
 unfold Qdu Qdl
 cases hc:((n==([]:Str))||(decide (k<0))) with
 | true=>rw[Ze rfl];simp
 | false=>rw[Zb (by decide)];simp only[Bool.or_eq_false_iff,Yc] at hc;obtain⟨q,hq,hqm⟩:=Qb2 (l:=x.Xa) (i:=k) (by omega) hk;unfold Qm3;rw[hq];simp only[Za];rw[Qd1 (by have:=hx.2 q hqm;omega)];simp only[Za];rw[QlU];cases field? x k (Qan q n)<;>simp

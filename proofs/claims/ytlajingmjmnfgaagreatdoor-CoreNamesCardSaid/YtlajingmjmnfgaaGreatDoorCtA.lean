/- Counts: the generators of limits and of numbers give a result; Holds, both ways. No condition. -/
import Derived.Test.YtlajingmjmnfgaaGreatDoorGenAll
import Derived.Test.YtlajingmjmnfgaaGreatDoorOk
set_option linter.all false
open List Go.IntKind
namespace Go.Proofs.YtlajingmjmnfgaaGreatDoor
open Go.Sim
def QzW {p n:Int} (hp:I64 p):Ok (QaH p n) (λr=>0<=r/\(1<=n->r<n)):=by
 have hp':=hp;unfold I64 at hp';have key:∀q:Int,0<=q->Ok (if decide (n<1)=true then some 0 else (nz n).bind λ_=>some (Int.tmod q n)) (λr=>0<=r/\(1<=n->r<n)):=λq hq=>by
  refine Ok.ite (λh=>?_) (λh=>?_)
  ·have:n<1:=ZN h;exact Ok.mk ⟨ZM _,λh=>by omega⟩
  ·have:¬n<1:=ZW h;rw[nz_of (by omega)];exact Ok.mk ⟨Int.tmod_nonneg _ hq,λ_=>Int.tmod_lt_of_pos _ (by omega)⟩
 unfold QaH;refine Ok.bind (P:=λq=>0<=q) (Ok.ite (λh=>?_) (λh=>?_)) (λq hq=>key q hq)
 ·have:p<0:=ZN h;refine Ok.mk ?_;have e1:i64.wrap (p+1)=p+1:=w64 (by omega) (by omega);rw[e1,w64 (by omega) (by omega)];omega
 ·have:¬p<0:=ZW h;exact Ok.mk (by omega)
section
variable {β:Type} {Q:β->Prop}
def Ok.arnd {p n:Int} {f:Int->Option β} (hp:I64 p) (hn:1<=n) (k:∀r,0<=r->r<n->Ok (f r) Q):Ok ((QaH p n).bind f) Q:=(QzW hp).bind λr h=>k r h.1 (h.2 hn)
def at_ok {l:List Int} {i n:Int} (hl:∀x∈l,I64 x) (hn:1<=n):Ok (QbX l i n) (λr=>0<=r/\r<n):=by unfold QbX;refine Ok.ite (λh=>Ok.mk ⟨ZM _,by omega⟩) (λh=>?_);simp only[Bool.or_eq_false_iff,ZU] at h;refine Ok.idx (by omega) (by omega) λv hv _=>?_;exact Ok.arnd (hl v hv) hn λr h0 h1=>Ok.mk ⟨h0,h1⟩
def Ok.at1 {l:List Int} {i n:Int} {f:Int->Option β} (hl:∀x∈l,I64 x) (hn:1<=n) (k:∀r,0<=r->r<n->Ok (f r) Q):Ok ((QbX l i n).bind f) Q:=(at_ok hl hn).bind λr h=>k r h.1 h.2
end
def Qon {α:Type} (s:List α) (p:α->Bool) {body:Int->Option (Int⊕(Unit⊕Int))}
  (hb:∀k (h:k<s.length),body (k:Int)=if p s[k]=true then some (.inr (.inr (k:Int))) else some (.inl ((k+1:Nat):Int))) (he:body (s.length:Int)=some (.inr (.inl ()))):
  Qu body (0:Int)=some (match s.findIdx? p with | some k=>.inr (k:Int) | none=>.inl ()):=by
 obtain⟨q,hq⟩:∃q:Nat->Bool,∀k (h:k<s.length),q k=p s[k]:=⟨λk=>if h:k<s.length then p s[k] else false,λk h=>dif_pos h⟩
 rcases Qkk (ρ:=Unit⊕Int) s.length q (.inl ()) (λk=>.inr (k:Int))
  (λk hk hp=>by rw[hb k hk,Zc (by rw[<-hq k hk,hp];decide)]) (λk hk hp=>by rw[hb k hk,Zb (by rw[<-hq k hk,hp])]) he with⟨k,hk,hp,hj,e⟩ | ⟨hp,e⟩
 ·have:s.findIdx? p=some k:=by
   rw[Ya];refine⟨hk,by rw[<-hq k hk,hp],λj hj'=>?_⟩;have:=hj j hj';rw[hq j (by omega)] at this;simp[this]
  rw[e,this]
 ·have:s.findIdx? p=none:=by
   rw[findIdx?_eq_none_iff];intro x hx;obtain⟨k,hk,rfl⟩:=Ye hx;have:=hp k hk
   rwa [hq k hk] at this
  rw[e,this]
def Up (S:List Nat):Prop:=S.Pairwise (·< ·)
section
variable {S:Type}
end
def Qu3 {p n:Int} (hp:I64 p):Ok (QaH p n) (λr=>0<=r/\(1<=n->r<n)/\(n<=0->r=0)):=by
 have hp':=hp;unfold I64 at hp';have key:∀q:Int,0<=q->Ok (if decide (n<1)=true then some 0 else (nz n).bind λ_=>some (Int.tmod q n)) (λr=>0<=r/\(1<=n->r<n)/\(n<=0->r=0)):=λq hq=>by
  refine Ok.ite (λh=>?_) (λh=>?_)
  ·have:n<1:=ZN h;exact Ok.mk ⟨ZM _,λh=>by omega,λ_=>rfl⟩
  ·have:¬n<1:=ZW h;rw[nz_of (by omega)];exact Ok.mk ⟨Int.tmod_nonneg _ hq,λ_=>Int.tmod_lt_of_pos _ (by omega),λh=>by omega⟩
 unfold QaH;refine Ok.bind (P:=λq=>0<=q) (Ok.ite (λh=>?_) (λh=>?_)) (λq hq=>key q hq)
 ·have:p<0:=ZN h;refine Ok.mk ?_;have e1:i64.wrap (p+1)=p+1:=w64 (by omega) (by omega);rw[e1,w64 (by omega) (by omega)];omega
 ·have:¬p<0:=ZW h;exact Ok.mk (by omega)
section
variable {β:Type} {Q:β->Prop}
def Ok.around {p n:Int} {f:Int->Option β} (hp:I64 p) (hn:1<=n) (k:∀r,0<=r->r<n->Ok (f r) Q):Ok ((QaH p n).bind f) Q:=(Qu3 hp).bind λr h=>k r h.1 (h.2.1 hn)
def MOk (m:QC):Prop:=∀x∈m.L,I64 x
def Qlh {m:QC} {n:Int} (hm:MOk m) (hn:1<=n):Ok (QD m n) (λr=>0<=r.1/\r.1<n/\MOk r.2):=by unfold QD QbX;refine Ok.bind (P:=λr=>0<=r/\r<n) (Ok.ite (λh=>Ok.mk ⟨ZM _,by omega⟩) (λh=>?_)) (λr hr=>Ok.mk ⟨hr.1,hr.2,hm⟩);simp only[Bool.or_eq_false_iff,ZU] at h;refine Ok.idx (by omega) (by omega) λv hv _=>?_;exact Ok.around (hm v hv) hn λr h0 h1=>Ok.mk ⟨h0,h1⟩
def Ok.take {m:QC} {n:Int} {f:Int×QC->Option β} (hm:MOk m) (hn:1<=n) (k:∀r m',0<=r->r<n->MOk m'->Ok (f (r,m')) Q):Ok ((QD m n).bind f) Q:=(Qlh hm hn).bind λr h=>k r.1 r.2 h.1 h.2.1 h.2.2
end
def SN (s:Str):Prop:=s.length<=20/\s.head?≠some 122
def FN (f:Qb):Prop:=SN f.Xj/\SN f.Of/\SN f.Up
def FOk (f:Qb):Prop:=f.Words.length<=6/\f.Xf.length<=6/\FN f
def KOk (n:Nat) (k:Qf):Prop:=k.Xb.length<=n/\(∀f∈k.Xb,FOk f)/\SN k.Xj
def Qoo {l:List Qb} {name:Str} (hl:l.length<=1000):Ok (Qe7 l name) (λr=>-1<=r/\r<l.length):=by
 unfold Qe7;refine Ok.bind (P:=λe=>match e with | .inl _=>True | .inr r=>0<=r/\r<l.length) (Ok.loop (λk s=>0<=s/\s+k=l.length) l.length ⟨by omega,by omega⟩ λk s hs=>?_) (λe he=>?_)
 ·refine Ok.ite (λh=>?_) (λh=>Ok.mk trivial);have h':s<l.length:=ZN h;refine Ok.idx hs.1 h' λv _ _=>Ok.ite (λ_=>Ok.mk ⟨hs.1,h'⟩) (λ_=>Ok.mk ?_);rw[w64 (by omega) (by omega)];exact⟨k - 1,by omega,by omega,by omega⟩
 ·rcases e with e | e
  ·exact Ok.mk ⟨by omega,by omega⟩
  ·exact Ok.mk ⟨by omega,he.2⟩
def Qu4 {k:Qf} (hl:k.Xb.length<=1000):Ok (Qgi k) (λr=>-1<=r/\r<k.Xb.length):=by
 unfold Qgi;refine Ok.bind (P:=λe=>match e with | .inl _=>True | .inr r=>0<=r/\r<k.Xb.length) (Ok.loop (λn s=>0<=s/\s+n=k.Xb.length) k.Xb.length ⟨by omega,by omega⟩ λn s hs=>?_) (λe he=>?_)
 ·refine Ok.ite (λh=>?_) (λh=>Ok.mk trivial);have h':s<k.Xb.length:=ZN h;refine Ok.idx hs.1 h' λv _ _=>Ok.ite (λ_=>Ok.mk ⟨hs.1,h'⟩) (λ_=>Ok.mk ?_);rw[w64 (by omega) (by omega)];exact⟨n - 1,by omega,by omega,by omega⟩
 ·rcases e with e | e
  ·exact Ok.mk ⟨by omega,by omega⟩
  ·exact Ok.mk ⟨by omega,he.2⟩
def Qq0 {m:QC} (hm:MOk m):Ok (QcV m) (λr=>r.1.length<=2/\(∀f∈r.1,FOk f)/\MOk r.2):=by
 unfold QcV;refine Ok.take hm (by decide) λr m1 _ _ h1=>?_;refine Ok.ite (λ_=>?_) (λ_=>?_)
 ·refine Ok.take h1 (by decide) λr2 m2 _ _ h2=>Ok.take h2 (by decide) λr3 m3 _ _ h3=>Ok.mk ⟨by simp,by simp[FOk,FN,SN],h3⟩
 refine Ok.ite (λ_=>?_) (λ_=>?_)
 ·refine Ok.take h1 (by decide) λr2 m2 h20 h21 h2=>?_;have hr2:i64.wrap (1+r2)=1+r2:=w64 (by omega) (by omega);refine Ok.sub (by decide) (by dsimp only;rw[hr2];omega) (by dsimp only;rw[hr2];simp;omega) λw hw _=>?_;dsimp only at hw;rw[hr2] at hw;have hwl:1<=w.length/\w.length<=3:=by omega
  refine Ok.bind (P:=λr=>r.1.length=w.length/\MOk r.2) (Ok.loop (λk s=>0<=s.1/\s.1+k=w.length/\s.2.1.length=s.1/\MOk s.2.2) w.length ⟨ZM _,by simp,by simp,h2⟩ λk s hs=>?_) (λp hp=>?_)
  ·obtain⟨i,ws,m3⟩:=s;obtain⟨e1,e2,e3,e4⟩:=hs;dsimp only at e1 e2 e3 e4;refine Ok.ite (λh=>?_) (λh=>?_)
   ·have h':i<w.length:=ZN h;refine Ok.take e4 (by decide) λr4 m4 _ _ h4=>Ok.rm (by simp;omega) (Ok.mk ?_);dsimp only;rw[w64 (by omega) (by omega)];exact⟨k - 1,by omega,by omega,by omega,by simp;omega,h4⟩
   ·have h':¬i<w.length:=ZW h;exact Ok.mk ⟨by dsimp only;omega,e4⟩
  ·refine Ok.take hp.2 (by omega) λr4 m4 h40 h41 h4=>Ok.take h4 (by decide) λr5 m5 _ _ h5=>?_;refine Ok.setAt h40 (by dsimp only;omega) (Ok.mk ⟨by simp,?_,h5⟩);intro f hf;rw[Zg] at hf;subst hf;exact⟨by dsimp only;omega,by simp only[Yk];omega,by simp[FN,SN]⟩
 refine Ok.ite (λ_=>?_) (λ_=>?_)
 ·refine Ok.take h1 (by decide) λr2 m2 _ _ h2=>Ok.take h2 (by decide) λr3 m3 _ _ h3=>Ok.take h3 (by decide) λr4 m4 _ _ h4=>Ok.take h4 (by decide) λr5 m5 _ _ h5=>Ok.mk ⟨by simp,by simp[FOk,FN,SN],h5⟩
 refine Ok.ite (λ_=>?_) (λ_=>?_)
 ·refine Ok.take h1 (by decide) λr2 m2 _ _ h2=>Ok.take h2 (by decide) λr3 m3 _ _ h3=>Ok.mk ⟨by simp,by simp[FOk,FN,SN],h3⟩
 refine Ok.ite (λ_=>?_) (λ_=>?_)
 ·refine Ok.take h1 (by decide) λr2 m2 _ _ h2=>Ok.take h2 (by decide) λr3 m3 _ _ h3=>Ok.take h3 (by decide) λr4 m4 _ _ h4=>Ok.take h4 (by decide) λr5 m5 _ _ h5=>Ok.mk ⟨by simp,by simp[FOk,FN,SN],h5⟩
 ·exact Ok.mk ⟨by simp,by simp,h1⟩
def GOk (n:Nat) (k:Qf):Prop:=KOk n k/\1<=k.Xj.length/\k.Xj.length<=6
def GOk.Xp {a b:Nat} {k:Qf} (h:GOk a k) (hab:a<=b):GOk b k:=⟨⟨by have:=h.1.1;omega,h.1.2⟩,h.2⟩
def fok {n o u:Str} {k lo hi:Int} (h1:SN n) (h2:SN o) (h3:SN u):FOk ⟨n,o,u,k,lo,hi,[],[]⟩:=⟨by simp,by simp,h1,h2,h3⟩
def Qop:SN []:=by simp[SN]
def QlW {c:Bool} {a b:QC} (h:c=true->MOk a) (k:MOk b):MOk (bif c==true then a else b):=by
 cases c with
 | true=>exact h rfl
 | false=>exact k
set_option maxHeartbeats 1000000 in
def QzX {m:QC} {l:List Qf} {N:Nat} (hm:MOk m) (hl:l.length<=2) (hN:N<=20) (hk:∀k∈l,GOk N k):
  Ok (Qek m l) (λr=>GOk 9 r.1/\MOk r.2.1/\r.2.2.length=l.length/\∀k∈r.2.2,GOk (N+1) k):=by
 unfold Qek;refine Ok.take hm (by decide) λr1 m1 a1 b1 h1=>?_;refine Ok.idx a1 (by simpa using b1) λlo _ _=>?_;refine Ok.idx (by omega) (by simp;omega) λname hname _=>?_;have hn:1<=name.length/\name.length<=6:=by simp only[Zo,ZG,ZS] at hname;rcases hname with rfl | rfl | rfl<;>decide
 have hsn:SN name:=by simp only[Zo,ZG,ZS] at hname;rcases hname with rfl | rfl | rfl<;>simp[SN]
 refine Ok.take h1 (by decide) λr2 m2 _ _ h2=>?_;refine Ok.take h2 (by decide) λr3 m3 a3 b3 h3=>?_;refine Ok.idx a3 (by simpa using b3) λid0 _ _=>?_;refine Ok.rm (by simp) ?_;refine Ok.bind (P:=λp:QC×List Qb×List Qf=>MOk p.1/\p.2.1.length<=4/\(∀f∈p.2.1,FOk f)/\p.2.2.length=l.length/\∀k∈p.2.2,GOk (N+1) k)
  (Ok.ite (λhpos=>?_) (λ_=>Ok.mk ⟨h3,by simp,by simp[FOk,FN,SN],rfl,λk h=>(hk k h).Xp (by omega)⟩)) λp hp=>?_
 ·have hpos':(0:Int)<l.length:=ZN hpos;refine Ok.take h3 (by omega) λto m4 a4 b4 h4=>?_;refine Ok.idx a4 b4 λkt hkt ekt=>?_;refine Ok.take h4 (by decide) λr5 m5 a5 b5 h5=>?_;refine Ok.idx a5 (by simpa using b5) λhi _ _=>?_;refine Ok.take h5 (by decide) λr6 m6 _ _ h6=>?_;have skt:=(hk kt hkt).1.2.2;refine Ok.bind (P:=FOk) (Ok.ite (λ_=>Ok.mk (fok (by simp[SN]) skt Qop)) (λ_=>Ok.mk (fok (by simp[SN]) skt Qop))) λf hf=>?_;refine Ok.rm (by simp) ?_;refine Ok.idx a4 b4 λkt1 hkt1 _=>?_;refine (Qu4 (by have:=(hk _ hkt1).1.1;omega)).bind λc hc=>?_;refine Ok.opt (P:=λr:Int×QC=>MOk r.2) (λh=>(Qlh h6 (by decide)).Xp λr h=>h.2.2) λr7 h7=>?_;have m7:MOk (bif (decide (c>=(0:Int)))==true then r7.2 else m6):=QlW (λh=>h7 (by rw[h];rfl)) h6;refine Ok.bind (P:=λp:List Qb=>p.length<=3/\∀f∈p,FOk f) (Ok.ite (λh=>?_) (λ_=>Ok.mk ⟨by simp,?_⟩)) λfs hfs=>?_
  ·simp only[Zk,ZA] at h;refine Ok.idx a4 b4 λkt2 hkt2 ekt2=>?_;have e:kt2=kt1:=by simp_all
   subst e;refine Ok.idx h.1 hc.2 λg hg _=>Ok.rm (by simp) (Ok.mk ⟨by simp,?_⟩);have sg:=((hk _ hkt1).1.2.1 g hg).2.2.1;intro x hx;simp only[ZV,cons_append,Zo,ZG,ZS] at hx;rcases hx with rfl | rfl | rfl
   ·simp[FOk,FN,SN]
   ·exact hf
   ·exact fok (by simp[SN]) sg (by simp[SN])
  ·intro x hx;simp only[ZV,cons_append,Zo,ZG,ZS] at hx;rcases hx with rfl | rfl
   ·simp[FOk,FN,SN]
   ·exact hf
  ·refine Ok.idx a4 b4 λkt3 hkt3 ekt3=>?_;refine (Qoo (by have:=(hk _ hkt3).1.1;omega)).bind λtot htot=>?_;refine Ok.opt (P:=λr:Int×QC=>MOk r.2) (λh=>(Qlh m7 (by decide)).Xp λr h=>h.2.2) λr8 h8=>?_;have m8:MOk (bif (decide (tot<(0:Int)))==true then r8.2 else (bif (decide (c>=(0:Int)))==true then r7.2 else m6)):=QlW (λh=>h8 (by rw[h];rfl)) m7;refine Ok.bind (P:=λp:QC×List Qb×List Qf=>MOk p.1/\p.2.1.length<=4/\(∀f∈p.2.1,FOk f)/\p.2.2.length=l.length/\∀k∈p.2.2,GOk (N+1) k)
    (Ok.ite (λh=>?_) (λ_=>Ok.mk ⟨m8,by have:=hfs.1;dsimp only;omega,hfs.2,rfl,λk h=>(hk k h).Xp (by omega)⟩)) λp hp=>Ok.mk hp
   refine Ok.take m8 (by decide) λr9 m9 _ _ h9=>Ok.take h9 (by decide) λr10 m10 _ _ h10=>?_;refine Ok.rm (by have:=hfs.1;simp;omega) ?_;refine Ok.idx a4 b4 λkt4 hkt4 ekt4=>?_;have hk4:=hk _ hkt4;have hk41:=hk4.1.1;refine Ok.rm (by simp;omega) (Ok.rm (by simp;omega) ?_);refine Ok.idx a4 b4 λkt5 hkt5 ekt5=>?_;have e:kt5=kt4:=by simp_all
   subst e;refine Ok.setAt a4 b4 (Ok.mk ⟨h10,?_,?_,?_,?_⟩)
   ·have:=hfs.1;simp;omega
   ·intro x hx;rcases ZF.1 hx with hx | hx
    ·exact hfs.2 x hx
    ·rw[Zg] at hx;subst hx;simp[FOk,FN,SN]
   ·simp
   ·intro k hkm;rcases mem_or_eq_of_mem_set hkm with hkm | rfl
    ·exact (hk k hkm).Xp (by omega)
    ·refine⟨⟨?_,?_,hk4.1.2.2⟩,hk4.2⟩
     ·simp;omega
     ·intro x hx;rcases ZF.1 hx with hx | hx
      ·exact hk4.1.2.1 x (by simpa using hx)
      ·rw[Zg] at hx;subst hx;exact fok (by simp[SN]) hsn Qop
 ·obtain⟨q1,q2,q3,q4,q5⟩:=hp;refine Ok.opt (P:=λr:Int×QC=>MOk r.2) (λh=>(Qlh q1 (by decide)).Xp λr h=>h.2.2) λr11 h11=>?_;have m11:MOk (bif (decide ((l.length:Int)>(1:Int)))==true then r11.2 else p.1):=QlW (λh=>h11 (by rw[h];rfl)) q1;refine Ok.bind (P:=λp:List Qb=>p.length<=5/\∀f∈p,FOk f) (Ok.ite (λh=>?_) (λ_=>Ok.mk ⟨by omega,q3⟩)) λfs hfs=>?_
  ·simp only[Zk,ZA] at h;refine Ok.idx (by decide) (by omega) λk0 hk0 _=>Ok.rm (by simp;omega) (Ok.mk ⟨by simp;omega,?_⟩);intro x hx;rcases ZF.1 hx with hx | hx
   ·exact q3 x hx
   ·rw[Zg] at hx;subst hx;exact fok (by simp[SN]) (q5 k0 hk0).1.2.2 Qop
  ·refine (Qq0 m11).bind λr12 h12=>?_;obtain⟨c1,c2,c3⟩:=h12;obtain⟨f1,f2⟩:=hfs;refine Ok.rm (by omega) ?_;refine Ok.take c3 (by decide) λr13 m13 _ _ h13=>?_;have all7:∀f∈fs++r12.1,FOk f:=λx hx=>(ZF.1 hx).elim (f2 x) (c2 x);have len7:(fs++r12.1).length<=7:=by simp;omega
   refine Ok.bind (P:=λp:QC×List Qb=>MOk p.1/\p.2.length<=9/\∀f∈p.2,FOk f) (Ok.ite (λh=>?_) (λ_=>Ok.mk ⟨h13,by dsimp only;omega,all7⟩)) λp52 hp52=>Ok.mk ⟨⟨⟨hp52.2.1,hp52.2.2,hsn⟩,hn⟩,hp52.1,q4,q5⟩;refine (Qq0 h13).bind λr14 h14=>?_;obtain⟨d1,d2,d3⟩:=h14;refine Ok.opt (P:=λ_=>True) (λh=>?_) λg _=>?_
   ·have h':(r14.1.length:Int)>0:=by simpa using h
    exact (Ok.idx (by decide) (by omega) λv _ _=>Ok.mk trivial:Ok ((idx r14.1 0).bind some) _).Xp (λ_ h=>h) |> λh=>by simpa using h
   refine Ok.opt (P:=λ_=>True) (λh=>(Qoo (by omega)).Xp λ_ _=>trivial) λg2 _=>?_;refine Ok.bind (P:=λp:List Qb=>p.length<=9/\∀f∈p,FOk f) (Ok.ite (λh=>Ok.rm (by omega) (Ok.mk ⟨by rw[Zd];omega,λx hx=>(ZF.1 hx).elim (all7 x) (d2 x)⟩)) (λ_=>Ok.mk ⟨by omega,all7⟩)) λp64 hp64=>Ok.mk ⟨d3,hp64.1,hp64.2⟩
def RN (r:Qh):Prop:=SN r.Xj/\SN r.Xi/\SN r.A/\SN r.B
def Qq1 {a r:Str} (h1:1<=a.length) (h2:a.length<=10) (h:a.head?≠some 122) (hr:r.length=1):SN (a++r):=by
 refine⟨by rw[Zd];omega,?_⟩
 cases a with
 | nil=>simp at h1
 | cons c a=>simpa using h
def QzY {m:QC} {k:Qf} (hm:MOk m) (hk:GOk 12 k):Ok (Qel m k) (λr=>RN r.1/\MOk r.2.2):=by unfold Qel;obtain⟨⟨k1,k2,ks⟩,k3,k4⟩:=hk;refine (Qoo (by omega)).bind λa ha=>(Qoo (by omega)).bind λb hb=>?_;refine Ok.opt (P:=λr:Int×QC=>MOk r.2) (λh=>(Qlh hm (by decide)).Xp λr h=>h.2.2) λr1 h1=>?_;have m1:MOk (bif (decide (a>=(0:Int)))==true then r1.2 else m):=QlW (λh=>h1 (by rw[h];rfl)) hm;have nm:∀{β:Type} {Q:β->Prop} {f:Str->Option β},(∀r:Str,r.length=1->Ok (f r) Q)->Ok ((sub k.Xj 0 1).bind f) Q:=λh=>Ok.sub (by decide) (by decide) (by omega) λr hr _=>h r (by simpa using hr);refine Ok.ite (λ_=>nm λr hr=>Ok.cat (by simp;omega) (Ok.take m1 (by decide) λ_ m2 _ _ h2=>Ok.mk ⟨⟨Qq1 (by simp) (by simp) (by simp) hr,ks,by simp[SN],by simp[SN]⟩,h2⟩)) (λ_=>?_);refine Ok.ite (λ_=>Ok.mk ⟨by simp[RN,SN],m1⟩) (λh=>?_);have hb0:¬b<0:=ZW h;refine Ok.idx (by omega) hb.2 λf _ _=>Ok.take m1 (by decide) λr2 m2 _ _ h2=>?_;refine Ok.ite (λ_=>nm λr hr=>Ok.cat (by simp;omega) (Ok.take h2 (by decide) λ_ m2 _ _ h2=>Ok.mk ⟨⟨Qq1 (by simp) (by simp) (by simp) hr,ks,by simp[SN],by simp[SN]⟩,h2⟩)) (λ_=>nm λr hr=>Ok.cat (by simp;omega) (Ok.take h2 (by decide) λ_ m2 _ _ h2=>Ok.mk ⟨⟨Qq1 (by simp) (by simp) (by simp) hr,ks,by simp[SN],by simp[SN]⟩,h2⟩))
def SOk (n:Nat) (x:Qe):Prop:=x.Xa.length<=3/\(∀k∈x.Xa,KOk 14 k)/\x.Xd.length<=1/\(∀m∈x.Xd,m.Xe.length<=6/\m.Xg.length<=8/\SN m.Xj)/\x.Xc.length<=n/\∀r∈x.Xc,RN r
def Qu5 {l:List Int} (hl:∀x∈l,I64 x):Ok (Qgj l) (SOk 2):=by
 unfold Qgj;refine Ok.sub (by decide) (by unfold imin;split<;>omega) (by unfold imin;split<;>omega) λw _ hw=>?_;have h0:MOk (QC.mk w 0):=λx hx=>hl x (hw x hx);refine Ok.take h0 (by decide) λv m1 _ _ h1=>Ok.take h1 (by decide) λn m2 a2 b2 h2=>?_;have en:i64.wrap (1+n)=1+n:=w64 (by omega) (by omega);refine Ok.bind (P:=λp:List Qf×QC=>p.1.length=1+n/\(∀k∈p.1,GOk 12 k)/\MOk p.2)
  (Ok.loop (λk s=>0<=s.1/\s.1+k=1+n/\s.2.1.length=s.1/\(∀q∈s.2.1,GOk (9+s.1.toNat) q)/\MOk s.2.2) (1+n).toNat ⟨ZM _,by dsimp only;omega,by simp,by simp,h2⟩ λk s hs=>?_) (λp hp=>?_)
 ·obtain⟨i,ks,m3⟩:=s;obtain⟨e1,e2,e3,e4,e5⟩:=hs;dsimp only at e1 e2 e3 e4 e5;refine Ok.ite (λh=>?_) (λh=>?_)
  ·have h':i<1+n:=by have:=ZN h;rwa [en] at this
   refine (QzX (N:=9+i.toNat) e5 (by omega) (by omega) e4).bind λr hr=>?_;obtain⟨r1,r2,r3,r4⟩:=hr;refine Ok.rm (by simp;omega) (Ok.mk ?_);have ei:i64.wrap (i+1)=i+1:=w64 (by omega) (by omega);refine⟨k - 1,by omega,?_⟩;dsimp only;rw[ei];refine⟨by omega,by omega,by simp;omega,λq hq=>?_,r2⟩;rcases ZF.1 hq with hq | hq
   ·exact (r4 q hq).Xp (by omega)
   ·rw[Zg] at hq;subst hq;exact r1.Xp (by omega)
  ·have h':¬i<1+n:=by have:=ZW h;rwa [en] at this
   refine Ok.mk ⟨by dsimp only;omega,λq hq=>(e4 q hq).Xp (by omega),e5⟩
 obtain⟨p1,p2,p3⟩:=hp;refine Ok.take p3 (by decide) λt m4 a4 b4 h4=>?_;have et:i64.wrap (2+t)=2+t:=w64 (by omega) (by omega);refine Ok.sub (by decide) (by dsimp only;rw[et];omega) (by dsimp only;rw[et];simp;omega) λst hst _=>?_;dsimp only at hst;rw[et] at hst;have hsl:2<=st.length/\st.length<=4:=by omega
 refine Ok.bind (P:=λp:List QF=>p.length<=3) (Ok.loop (λk s=>0<=s.1/\s.1+1+k=st.length/\s.2.length=s.1) (st.length - 1) ⟨ZM _,by dsimp only;omega,by simp⟩ λk s hs=>?_) (λmv hmv=>?_)
 ·obtain⟨i,ms⟩:=s;obtain⟨e1,e2,e3⟩:=hs;dsimp only at e1 e2 e3;have ei:i64.wrap (i+1)=i+1:=w64 (by omega) (by omega);refine Ok.ite (λh=>?_) (λh=>?_)
  ·have h':i+1<st.length:=by have:=ZN h;rwa [ei] at this
   refine Ok.rm (by simp;omega) (Ok.mk ⟨k - 1,by omega,?_⟩);dsimp only;rw[ei];exact⟨by omega,by omega,by simp;omega⟩
  ·have h':¬i+1<st.length:=by have:=ZW h;rwa [ei] at this
   exact Ok.mk (by dsimp only;omega)
 refine Ok.take h4 (by decide) λr5 m5 _ _ h5=>?_;refine Ok.bind (P:=λp:List QF=>p.length<=4) (Ok.ite (λ_=>Ok.rm (by simp;omega) (Ok.mk (by simp;omega))) (λ_=>Ok.mk (by omega))) λmv2 hmv2=>?_;refine Ok.take h5 (by decide) λr6 m6 _ _ h6=>?_;refine Ok.bind (P:=λp:List QF=>p.length<=5) (Ok.ite (λ_=>Ok.rm (by simp;omega) (Ok.mk (by simp;omega))) (λ_=>Ok.mk (by omega))) λmv3 hmv3=>?_;refine Ok.rm (by simp) ?_;refine Ok.bind (P:=λp:List Qh=>p.length<=2/\∀r∈p,RN r) (Ok.loop (λk s=>0<=s.1/\s.1+k=1+n/\(s.2.1.length<=2/\∀r∈s.2.1,RN r)/\MOk s.2.2) (1+n).toNat ⟨ZM _,by dsimp only;omega,by simp,h6⟩ λk s hs=>?_) (λrs hrs=>?_)
 ·obtain⟨i,rs,m7⟩:=s;obtain⟨e1,e2,e3,e4⟩:=hs;dsimp only at e1 e2 e3 e4;refine Ok.ite (λh=>?_) (λh=>Ok.mk e3);simp only[Zk,ZA,en] at h;refine Ok.idx e1 (by omega) λq hq _=>(QzY e4 (p2 q hq)).bind λr hr=>?_;refine Ok.bind (P:=λp:List Qh=>p.length<=2/\∀r∈p,RN r) (Ok.ite (λ_=>Ok.rm (by simp;omega) (Ok.mk ⟨by simp;omega,λy hy=>(ZF.1 hy).elim (e3.2 y) λhy=>by rw[Zg] at hy;subst hy;exact hr.1⟩)) (λ_=>Ok.mk e3)) λrs2 hrs2=>Ok.mk ⟨k - 1,by omega,?_⟩;dsimp only;rw[w64 (n:=i+1) (by omega) (by omega)];exact⟨by omega,by omega,hrs2,hr.2⟩
 ·refine Ok.mk ⟨by dsimp only;omega,λq hq=>⟨by have:=(p2 q hq).1.1;omega,(p2 q hq).1.2⟩,by simp,?_,hrs⟩;intro q hq;simp only[ZV,Zg] at hq;subst hq;exact⟨by dsimp only;omega,by dsimp only;omega,by simp[SN]⟩
def Ok.same {β:Type} {x:Option β} {Q:β->Prop} (h:Ok x Q):Ok (x.bind λp=>some p) Q:=h.bind λ_ hr=>Ok.mk hr
def Qhc {α:Type} {P:α->Prop} {l:List α} {i:Nat} {x:α} (h:∀y∈l,P y) (hx:P x):∀y∈l.set i x,P y:=λy hy=>(mem_or_eq_of_mem_set hy).elim (h y) λe=>e▸hx
def QzZ {n:Nat} {x:Qe} {a h b:Int} (hx:SOk n x) (hn:n<=20) (ha:I64 a) (hh:I64 h) (hb:I64 b):Ok (Qht x a h b) (SOk (n+1)):=by
 obtain⟨x1,x2,x3,x4,x5,x6⟩:=hx;unfold Qht;simp only[ZV,Zi,Nat.zero_add];refine Ok.rm (by omega) (Ok.rm (by omega) ?_);refine Ok.ite (λ_=>Ok.mk ⟨x1,x2,x3,x4,by dsimp only;omega,x6⟩) (λh0=>?_);have h0':(x.Xa.length:Int)≠0:=by simpa using h0
 refine Ok.around ha (by omega) λi i0 i1=>?_;refine Ok.idx i0 i1 λkd hkd ekd=>?_;have hkd':=x2 kd hkd;have hk1:=hkd'.1;refine Ok.rm (by omega) ?_;refine Ok.around hb (by omega) λi2 i20 i21=>?_;refine Ok.idx i20 i21 λk2 hk2 _=>?_;refine Ok.idx (by decide) (by omega) λk3 hk3 _=>?_;refine Ok.bind (P:=λp:List Str=>(4<=p.length/\p.length<=18)/\∀s∈p,SN s) (Ok.loop (λk s=>0<=s.1/\s.1+k=kd.Xb.length/\s.2.length=4+s.1/\∀n∈s.2,SN n) kd.Xb.length ⟨ZM _,by simp,by simp,?_⟩ λk s hs=>?_) (λnames hnm=>?_)
 ·have s2:=(x2 k2 hk2).2.2;have s3:=(x2 k3 hk3).2.2;intro n hn;simp only[Zo,ZG,ZS] at hn;rcases hn with rfl | rfl | rfl | rfl
  ·simp[SN]
  ·simp[SN]
  ·exact s2
  ·exact s3
 ·obtain⟨j,ns⟩:=s;obtain⟨e1,e2,e3,e4⟩:=hs;dsimp only at e1 e2 e3 e4;refine Ok.ite (λh=>?_) (λh=>Ok.mk ⟨⟨by dsimp only;omega,by dsimp only;omega⟩,e4⟩);have h':j<kd.Xb.length:=ZN h;refine Ok.idx e1 h' λf hf _=>Ok.rm (by simp;omega) (Ok.mk ⟨k - 1,by omega,?_⟩);dsimp only;rw[w64 (n:=j+1) (by omega) (by omega)];exact⟨by omega,by omega,by simp;omega,λn hn=>(ZF.1 hn).elim (e4 n) λhn=>by rw[Zg] at hn;subst hn;exact (hkd'.2.1 f hf).2.2.1⟩
 obtain⟨hnm,hsn⟩:=hnm;refine Ok.around hb (by omega) λc c0 c1=>Ok.idx c0 c1 λname hname _=>?_;have snm:=hsn name hname;refine Ok.around (Qpr _) (by unfold imax;split<;>omega) λj j0 _=>?_;refine Ok.around hh (by decide) λw w0 w1=>?_;refine Ok.bind (P:=λp:List Qb=>p.length<=14/\∀f∈p,FOk f) (Ok.ite (λhc=>?_) (λ_=>Ok.mk ⟨hkd'.1,hkd'.2.1⟩)) λfs hfs=>?_
 ·simp only[Zk,ZA] at hc;refine Ok.same (Ok.ite (λ_=>?_) (λ_=>Ok.same (Ok.ite (λ_=>?_) (λ_=>Ok.same (Ok.ite (λ_=>Ok.same (Ok.ite (λ_=>?_) (λ_=>Ok.mk ⟨hkd'.1,hkd'.2.1⟩))) (λ_=>Ok.same (Ok.ite (λ_=>?_) (λ_=>?_))))))))
  ·exact Ok.idx j0 hc.2 λf hf _=>Ok.setAt j0 hc.2 (Ok.mk ⟨by simpa using hk1,Qhc hkd'.2.1 (have h:=hkd'.2.1 f hf;⟨h.1,h.2.1,h.2.2.1,snm,h.2.2.2.2⟩)⟩)
  ·exact Ok.idx j0 hc.2 λf hf _=>Ok.setAt j0 hc.2 (Ok.mk ⟨by simpa using hk1,Qhc hkd'.2.1 (have h:=hkd'.2.1 f hf;⟨h.1,h.2.1,h.2.2.1,h.2.2.2.1,snm⟩)⟩)
  ·exact Ok.idx j0 hc.2 λf hf _=>Ok.setAt j0 hc.2 (Ok.mk ⟨by simpa using hk1,Qhc hkd'.2.1 (have h:=hkd'.2.1 f hf;⟨h.1,h.2.1,snm,h.2.2.2⟩)⟩)
  ·exact Ok.around hb (by omega) λq q0 q1=>Ok.idx j0 hc.2 λf hf _=>Ok.idx q0 q1 λg hg _=>Ok.setAt j0 hc.2 (Ok.setAt q0 (by simpa using q1) (Ok.mk ⟨by simpa using hk1,Qhc (Qhc hkd'.2.1 (hkd'.2.1 g hg)) (hkd'.2.1 f hf)⟩))
  ·refine Ok.sub (by decide) j0 (by omega) λu hu hum=>?_;rw[w64 (n:=j+1) (by omega) (by omega)];refine Ok.sub (by omega) (by omega) (by omega) λv hv hvm=>Ok.rm (by omega) (Ok.mk ⟨?_,λf hf=>(ZF.1 hf).elim (λh=>hkd'.2.1 f (hum f h)) (λh=>hkd'.2.1 f (hvm f h))⟩);rw[Zd];omega
 refine Ok.idx i0 i1 λkd2 hkd2 _=>Ok.setAt i0 i1 ?_;have skd2:=(x2 kd2 hkd2).2.2;have all2:∀k∈x.Xa.set i.toNat { kd2 with Xb:=fs },KOk 14 k:=Qhc x2 ⟨hfs.1,hfs.2,skd2⟩;generalize hks:x.Xa.set i.toNat { kd2 with Xb:=fs }=ks at all2 ⊢;have lks:ks.length=x.Xa.length:=by rw[<-hks];simp
 refine Ok.bind (P:=λp:List Qf=>p.length=x.Xa.length/\∀k∈p,KOk 14 k) (Ok.ite (λ_=>?_) (λ_=>Ok.mk ⟨lks,all2⟩)) λks2 hks2=>?_
 ·exact Ok.around hb (by omega) λq q0 q1=>Ok.idx q0 q1 λf hf _=>Ok.idx i0 (by omega) λg hg _=>Ok.setAt q0 q1 (Ok.setAt i0 (by simp;omega) (Ok.mk ⟨by simp;omega,Qhc (Qhc all2 (all2 g hg)) (all2 f hf)⟩))
 refine Ok.bind (P:=λp:List Qh=>(p.length<=n+1/\(w>6->p.length<=n))/\∀r∈p,RN r) (Ok.ite (λh6=>?_) (λ_=>Ok.mk ⟨⟨by omega,λ_=>x5⟩,x6⟩)) λrs hrs=>?_
 ·have h6':w=6:=by simpa using h6
  refine Ok.idx i0 (by omega) λk4 hk4 _=>Ok.around (Qpr _) (by omega) λq q0 q1=>Ok.idx q0 q1 λnm hnm4 _=>Ok.rm (by simp;omega) (Ok.mk ⟨⟨by simp;omega,λh=>by omega⟩,λy hy=>(ZF.1 hy).elim (x6 y) λhy=>by rw[Zg] at hy;subst hy;exact⟨by simp[SN],(hks2.2 k4 hk4).2.2,snm,hsn nm hnm4⟩⟩)
 obtain⟨hrs,hrn⟩:=hrs;refine Ok.bind (P:=λp:List Qh=>p.length<=n+1/\∀r∈p,RN r) (Ok.ite (λhc=>?_) (λ_=>Ok.mk ⟨hrs.1,hrn⟩)) λrs2 hrs2=>Ok.mk ⟨by dsimp only;omega,hks2.2,x3,x4,hrs2⟩;simp only[Zk,ZA] at hc;have hr:=hrs.2 hc.1;refine Ok.around ha (by omega) λq q0 q1=>Ok.same (Ok.ite (λ_=>?_) (λ_=>?_))
 ·exact Ok.idx q0 q1 λr hr2 _=>Ok.setAt q0 q1 (Ok.mk ⟨by simp;omega,Qhc hrn (have h:=hrn r hr2;⟨h.1,h.2.1,snm,h.2.2.2⟩)⟩)
 ·exact Ok.idx q0 q1 λr hr2 _=>Ok.rm (by simp;omega) (Ok.mk ⟨by simp;omega,λy hy=>(ZF.1 hy).elim (hrn y) λhy=>by rw[Zg] at hy;subst hy;exact hrn _ hr2⟩)
def FZ (f:Qb):Prop:=f.Words.length<=7/\f.Xf.length<=7/\FN f
def KA (l:List Qf):Prop:=l.length<=3/\∀k∈l,k.Xb.length<=14/\(∀f∈k.Xb,FZ f)/\SN k.Xj
def LA (l:List Qs):Prop:=l.length<=1/\∀m∈l,m.Xe.length<=7/\m.Xg.length<=9/\SN m.Xj
def RA (l:List Qh):Prop:=l.length<=4/\∀r∈l,RN r
def Sz (x:Qe):Prop:=KA x.Xa/\LA x.Xd/\RA x.Xc
def FOk.z {f:Qb} (h:FOk f):FZ f:=⟨by have:=h.1;omega,by have:=h.2.1;omega,h.2.2⟩
def SOk.sz {n:Nat} {x:Qe} (h:SOk n x) (hn:n<=4):Sz x:=⟨⟨h.1,λk hk=>⟨(h.2.1 k hk).1,λf hf=>((h.2.1 k hk).2.1 f hf).z,(h.2.1 k hk).2.2⟩⟩,⟨h.2.2.1,λm hm=>⟨by have:=(h.2.2.2.1 m hm).1;omega,by have:=(h.2.2.2.1 m hm).2.1;omega,(h.2.2.2.1 m hm).2.2⟩⟩,Yg h.2.2.2.2.1 hn,h.2.2.2.2.2⟩
def Qbh {α:Type} (s:List α) (p:α->Bool):Int:=match s.findIdx? p with | some k=>(k:Int) | none=>-1
def QfF {α:Type} (s:List α) (p:α->Bool):-1<=Qbh s p/\Qbh s p<s.length:=by
 unfold Qbh
 cases h:s.findIdx? p with
 | none=>exact⟨by decide,by show (-1:Int)<_;omega⟩
 | some k=>have:=(Ya.1 h).1;exact⟨by show (-1:Int)<=(k:Int);omega,by show (k:Int)<_;omega⟩
def QcJ {α:Type} (s:List α) (p:α->Bool) {body:Int->Option (Int⊕(Unit⊕Int))}
  (hb:∀k (h:k<s.length),body (k:Int)=if p s[k]=true then some (.inr (.inr (k:Int))) else some (.inl ((k+1:Nat):Int))) (he:body (s.length:Int)=some (.inr (.inl ()))):
  Qu body (0:Int)=some (match s.findIdx? p with | some k=>.inr (k:Int) | none=>.inl ()):=by
 obtain⟨q,hq⟩:∃q:Nat->Bool,∀k (h:k<s.length),q k=p s[k]:=⟨λk=>if h:k<s.length then p s[k] else false,λk h=>dif_pos h⟩
 rcases Qkk (ρ:=Unit⊕Int) s.length q (.inl ()) (λk=>.inr (k:Int))
  (λk hk hp=>by rw[hb k hk,Zc (by rw[<-hq k hk,hp];decide)]) (λk hk hp=>by rw[hb k hk,Zb (by rw[<-hq k hk,hp])]) he with⟨k,hk,hp,hj,e⟩ | ⟨hp,e⟩
 ·have:s.findIdx? p=some k:=by
   rw[Ya];refine⟨hk,by rw[<-hq k hk,hp],λj hj'=>?_⟩;have:=hj j hj';rw[hq j (by omega)] at this;simp[this]
  rw[e,this]
 ·have:s.findIdx? p=none:=by
   rw[findIdx?_eq_none_iff];intro x hx;obtain⟨k,hk,rfl⟩:=Ye hx;have:=hp k hk
   rwa [hq k hk] at this
  rw[e,this]
section
variable {p:Qf->Bool} {q:Qb->Bool}
def Qps {s:List Qf} {f:Qf->Option Bool} (hs:s.length<=1000000) (hf:∀x∈s,f x=some (p x)):Qba s f=some (Qbh s p):=by
 unfold Qba;rw[QcJ s p (λk hk=>?_) ?_]
 ·unfold Qbh;cases s.findIdx? p<;>rfl
 ·rw[Zc (by simp)]
 ·rw[Zb (by simpa using hk),QY hk];show (f s[k]).bind _=_;rw[hf _ (Zl hk),QH hk (by omega)];rfl
def Qoq {s:List Qb} {f:Qb->Option Bool} (hs:s.length<=1000000) (hf:∀x∈s,f x=some (q x)):Qa5 s f=some (Qbh s q):=by
 unfold Qa5;rw[QcJ s q (λk hk=>?_) ?_]
 ·unfold Qbh;cases s.findIdx? q<;>rfl
 ·rw[Zc (by simp)]
 ·rw[Zb (by simpa using hk),QY hk];show (f s[k]).bind _=_;rw[hf _ (Zl hk),QH hk (by omega)];rfl
end
def QW (x:Qe) (n:Str):Int:=Qbh x.Xa λk=>k.Xj==n
def Qaf (k:Qf) (n:Str):Int:=Qbh k.Xb λf=>f.Xj==n
def QdF {x:Qe} {n:Str} (hx:x.Xa.length<=1000000):QbH x n=some (QW x n):=by unfold QbH;rw[Qps (f:=λx0=>QeF x0 n) (p:=λk=>k.Xj==n) hx (λk _=>rfl)];rfl
def QcA {k:Qf} {n:Str} (hx:k.Xb.length<=1000000):Qbr k n=some (Qaf k n):=by unfold Qbr;rw[Qoq (f:=λx0=>Qd3 x0 n) (q:=λk=>k.Xj==n) hx (λk _=>rfl)];rfl
def field? (x:Qe) (k j:Int):Option Qb:=if 0<=k/\0<=j then x.Xa[k.toNat]?.bind λq=>q.Xb[j.toNat]? else none
def QcZ:Qb:=Qb.mk [] [] [] 0 0 0 [] []
def QcK {x:Qe} {k j:Int} {f:Qb} (h:field? x k j=some f):∃q,0<=k/\0<=j/\idx x.Xa k=some q/\idx q.Xb j=some f/\q∈x.Xa/\k<x.Xa.length/\j<q.Xb.length:=by
 unfold field? at h;split at h
 ·rename_i hk;obtain⟨q,h1,h2⟩:=Option.bind_eq_some_iff.1 h;refine⟨q,hk.1,hk.2,by rw[Qh2 _ hk.1,h1],by rw[Qh2 _ hk.2,h2],Zm h1,?_,?_⟩
  ·have:=(Zf.1 h1).1;omega
  ·have:=(Zf.1 h2).1;omega
 ·cases h
def QgY {x:Qe} {k j:Int} {q:Qf} {f:Qb} (hk:0<=k) (hj:0<=j) (h1:idx x.Xa k=some q) (h2:idx q.Xb j=some f):field? x k j=some f:=by rw[Qh2 _ hk] at h1;rw[Qh2 _ hj] at h2;unfold field?;rw[Zb ⟨hk,hj⟩,h1];exact h2
def QcR {α:Type} {l:List α} {i:Int} (h0:0<=i) (h1:i<l.length):∃v,idx l i=some v/\v∈l:=by
 have hlt:i.toNat<l.length:=by omega
 exact⟨l[i.toNat],by rw[Qh2 l h0,Ze hlt],Zl hlt⟩
def QlX (x:Qe) (k j:Int):QcI x k j=some (match field? x k j with | some f=>(f,true) | none=>(QcZ,false)):=by
 unfold QcI;by_cases hc:(0<=k/\k<x.Xa.length)/\0<=j
 ·obtain⟨⟨h1,h2⟩,h3⟩:=hc;obtain⟨q,hq,_⟩:=QcR h1 h2;have c:((decide (k<0)||decide (k>=(x.Xa.length:Int)))||decide (j<0))=false:=by simp;omega
  rw[c,hq];show (if (false||decide (j>=(q.Xb.length:Int)))=true then _ else _)=_;by_cases h4:j<q.Xb.length
  ·obtain⟨f,hf,_⟩:=QcR h3 h4;rw[Zc (by simp;omega),QgY h1 h3 hq hf];show (idx q.Xb j).bind _=_;rw[hf];rfl
  ·rw[Zb (by simp;omega)];have:field? x k j=none:=by
    cases h:field? x k j with
    | none=>rfl
    | some f=>obtain⟨q',_,_,e1,e2,_,_,e3⟩:=QcK h;rw[hq] at e1;cases e1;exact (h4 e3).elim
   rw[this];rfl
 ·have c:((decide (k<0)||decide (k>=(x.Xa.length:Int)))||decide (j<0))=true:=by simp;omega
  rw[c];have:field? x k j=none:=by
   cases h:field? x k j with
   | none=>rfl
   | some f=>obtain⟨q',e1,e2,_,_,_,e3,_⟩:=QcK h;exact (hc ⟨⟨e1,e3⟩,e2⟩).elim
  rw[this];rfl
def Few (x:Qe):Prop:=x.Xa.length<=1000/\∀k∈x.Xa,k.Xb.length<=1000
def Sz.few {x:Qe} (h:Sz x):Few x:=⟨by have:=h.1.1;omega,λk hk=>by have:=(h.1.2 k hk).1;omega⟩
def Qi7 (x:Qe) (k:Int) (g:Qb):Int:=if QW x g.Of<k then QW x g.Of else -1
def upIx (x:Qe) (k j:Int):Int:=
 match field? x k j with
 | none=>-1
 | some f=>
  if f.Xi=7\/f.Xi=8 then
   match idx x.Xa k with
   | none=>-1
   | some q=>if Qaf q f.Up<j then (match field? x k (Qaf q f.Up) with | some g=>if g.Xi=1 then Qi7 x k g else -1 | none=>-1) else -1
  else if f.Xi=1 then Qi7 x k f else -1
def Qsj {x:Qe} {k j:Int} {g:Qb} {self:Qe->Int->Int->Option Int} (hx:Few x) (h:field? x k j=some g) (hg:g.Xi=1):Qc3 self x k j=some (Qi7 x k g):=by
 unfold Qc3;rw[QlX,h];simp only[Za,Bool.not_true,hg];rw[Zc (by decide),Zc (by decide),Zc (by decide),QdF (by have:=hx.1;omega)];simp only[Za,Qi7];by_cases hl:QW x g.Of<k
 ·rw[Zb (by simpa using hl),Zb hl]
 ·rw[Zc (by simpa using hl),Zc hl]
def upS_is {x:Qe} {k j:Int} {self:Qe->Int->Int->Option Int} (hx:Few x) (hs:∀u g,field? x k u=some g->g.Xi=1->self x k u=some (Qi7 x k g)):Qc3 self x k j=some (upIx x k j):=by
 cases hf:field? x k j with
 | none=>unfold Qc3 upIx;rw[QlX,hf];rfl
 | some f=>
  by_cases h1:f.Xi=1
  ·rw[Qsj hx hf h1];unfold upIx;rw[hf];simp[h1]
  unfold Qc3 upIx;rw[QlX,hf];simp only[Za,Bool.not_true];rw[Zc (by decide)];by_cases c:f.Xi=7\/f.Xi=8
  ·obtain⟨q,hk,hj,hq,hqf,hqm,_,_⟩:=QcK hf;rw[Zb (by simpa using c),Zb c,hq];simp only[Za];rw[QcA (by have:=hx.2 q hqm;omega)];simp only[Za];rw[QlX];simp only[Za]
   cases hg:field? x k (Qaf q f.Up) with
   | none=>simp
   | some g=>
    simp only;by_cases hu:Qaf q f.Up<j
    ·by_cases hg1:g.Xi=1
     ·rw[Zb (by simp[hu,hg1]),hs _ g hg hg1,Zb hu,Zb hg1];rfl
     ·rw[Zc (by simp[hg1]),Zb hu,Zc hg1]
    ·rw[Zc (by simp[hu]),Zc hu]
  ·rw[Zc (by simpa using c),Zc c,Zb (by simpa using h1),Zc h1]
def Qkm {x:Qe} {k j:Int} (hx:Few x):Qeu x k j=some (upIx x k j):=by unfold Qeu;exact upS_is hx λu g h hg=>Qsj hx h hg
def Qpt (p:Nat->Bool) (k:Nat):((range (k+1)).filter p).map Int.ofNat=if p k=true then ((range k).filter p).map Int.ofNat++[(k:Int)] else ((range k).filter p).map Int.ofNat:=by
 rw[Yr,filter_append,Yc];by_cases h:p k=true
 ·rw[Zb h];simp[h]
 ·rw[Zc h];simp[h]
def Qq2 (p:Nat->Bool) (k:Nat):(((range k).filter p).map Int.ofNat).length<=k:=by rw[Zy];have:=length_filter_le p (range k);simpa using this
def Qil (x:Qe) (o k:Int) (nm:Str) (fs:List Qb) (i:Nat):Bool:=match fs[i]? with | some g=>g.Xi==7&&g.Of==nm&&upIx x o (i:Int)==k | none=>false
def shl (x:Qe) (o k:Int) (nm:Str):List Int:=match idx x.Xa o with | some q=>((range q.Xb.length).filter (Qil x o k nm q.Xb)).map Int.ofNat | none=>[]
def QkB (x:Qe) (k:Int) (f:Qb):Int×List Int:=if f.Xi≠6\/QW x f.Of<=k then (-1,[]) else (QW x f.Of,shl x (QW x f.Of) k f.Xj)
def Qjq (x:Qe) (n:Str):-1<=QW x n/\QW x n<x.Xa.length:=QfF _ _
def Qu6 {x:Qe} {k:Int} {f:Qb} (hx:Few x) (hk:0<=k):QdC x k f=some (QkB x k f):=by
 unfold QdC;rw[QdF (by have:=hx.1;omega)];simp only[Za];unfold QkB;by_cases c:f.Xi≠6\/QW x f.Of<=k
 ·rw[Zb (by simpa using c),Zb c]
 rw[Zc (by simpa using c),Zc c];have c':k<QW x f.Of:=by
  rcases Int.lt_or_le k (QW x f.Of) with h | h
  ·exact h
  ·exact (c (.inr h)).elim
 obtain⟨q,hq,hqm⟩:=QcR (l:=x.Xa) (i:=QW x f.Of) (by omega) (Qjq x f.Of).2;have hl:=hx.2 q hqm;rw[hq];simp only[Za];refine Qkl q.Xb.length (λn=>((n:Int),((range n).filter (Qil x (QW x f.Of) k f.Xj q.Xb)).map Int.ofNat)) _ rfl (λn hn=>?_) (Zc (by simp)) ?_
 ·rw[Zb (by simpa using hn),QY hn];simp only[Za];rw[Qkm hx];have e:Qil x (QW x f.Of) k f.Xj q.Xb n=(q.Xb[n].Xi==7&&q.Xb[n].Of==f.Xj&&upIx x (QW x f.Of) (n:Int)==k):=by
   unfold Qil;rw[Ze hn]
  have hle:=Qq2 (Qil x (QW x f.Of) k f.Xj q.Xb) n;rw[Qpt,e,QH hn (by omega)]
  cases h1:(q.Xb[n].Xi==7&&q.Xb[n].Of==f.Xj) with
  | false=>rfl
  | true=>
   simp only[Sim.opt,Bool.true_and,if_true,beq_self_eq_true,Za]
   cases h2:upIx x (QW x f.Of) (n:Int)==k with
   | false=>rfl
   | true=>rw[Zb rfl,Zb rfl,Qb4 (by rw[length_singleton];omega)];rfl
 ·unfold shl;rw[hq]
def QeR {α:Type} (s:List α) (p:α->Bool):decide (Qbh s p>=0)=s.any p:=by
 unfold Qbh
 cases h:s.findIdx? p with
 | none=>have:=findIdx?_eq_none_iff.1 h;rw[Eq.comm,any_eq_false.2 (λx hx=>by simp[this x hx])];rfl
 | some k=>obtain⟨hk,hp,_⟩:=Ya.1 h;rw[Eq.comm,any_eq_true.2 ⟨_,Zl hk,hp⟩,Eq.comm];exact decide_eq_true (Int.natCast_nonneg k)
def QiL {α:Type} (s:List α) (p:α->Bool):(!s.any λx=>!p x)=s.all p:=by
 induction s with
 | nil=>rfl
 | cons a s ih=>simp only[any_cons,all_cons,Bool.not_or,Bool.not_not,ih]
def Qu7 {s:List Qs} {f:Qs->Option Bool} {p:Qs->Bool} (hs:s.length<=1000000) (hf:∀x∈s,f x=some (p x)):Qbz s f=some (Qbh s p):=by
 unfold Qbz;rw[QcJ s p (λk hk=>?_) ?_]
 ·unfold Qbh;cases s.findIdx? p<;>rfl
 ·rw[Zc (by simp)]
 ·rw[Zb (by simpa using hk),QY hk];show (f s[k]).bind _=_;rw[hf _ (Zl hk),QH hk (by omega)];rfl
def Qu8 {s:List Qh} {f:Qh->Option Bool} {p:Qh->Bool} (hs:s.length<=1000000) (hf:∀x∈s,f x=some (p x)):QaK s f=some (Qbh s p):=by
 unfold QaK;rw[QcJ s p (λk hk=>?_) ?_]
 ·unfold Qbh;cases s.findIdx? p<;>rfl
 ·rw[Zc (by simp)]
 ·rw[Zb (by simpa using hk),QY hk];show (f s[k]).bind _=_;rw[hf _ (Zl hk),QH hk (by omega)];rfl
def Qu9 {s:List Int} {f:Int->Option Bool} {p:Int->Bool} (hs:s.length<=1000000) (hf:∀x∈s,f x=some (p x)):Qby s f=some (Qbh s p):=by
 unfold Qby;rw[QcJ s p (λk hk=>?_) ?_]
 ·unfold Qbh;cases s.findIdx? p<;>rfl
 ·rw[Zc (by simp)]
 ·rw[Zb (by simpa using hk),QY hk];show (f s[k]).bind _=_;rw[hf _ (Zl hk),QH hk (by omega)];rfl
def QrD {s:List Str} {f:Str->Option Bool} {p:Str->Bool} (hs:s.length<=1000000) (hf:∀x∈s,f x=some (p x)):Qbf s f=some (Qbh s p):=by
 unfold Qbf;rw[QcJ s p (λk hk=>?_) ?_]
 ·unfold Qbh;cases s.findIdx? p<;>rfl
 ·rw[Zc (by simp)]
 ·rw[Zb (by simpa using hk),QY hk];show (f s[k]).bind _=_;rw[hf _ (Zl hk),QH hk (by omega)];rfl
def QrE {s:List QF} {f:QF->Option Bool} {p:QF->Bool} (hs:s.length<=1000000) (hf:∀x∈s,f x=some (p x)):Qbg s f=some (Qbh s p):=by
 unfold Qbg;rw[QcJ s p (λk hk=>?_) ?_]
 ·unfold Qbh;cases s.findIdx? p<;>rfl
 ·rw[Zc (by simp)]
 ·rw[Zb (by simpa using hk),QY hk];show (f s[k]).bind _=_;rw[hf _ (Zl hk),QH hk (by omega)];rfl
def Qq3 {s:List Qf} {f:Qf->Option Bool} {p:Qf->Bool} (hs:s.length<=1000000) (hf:∀x∈s,f x=some (p x)):Qa7 s f=some (s.any p):=by unfold Qa7;rw[Qps hs hf,<-QeR];rfl
def Qz0 {s:List Qf} {f:Qf->Option Bool} {p:Qf->Bool} (hs:s.length<=1000000) (hf:∀x∈s,f x=some (p x)):QcM s f=some (s.all p):=by unfold QcM;rw[Qq3 (p:=λx=>!p x) hs (λx hx=>by show (f x).bind _=_;rw[hf x hx];rfl),<-QiL];rfl
def QpT {s:List Qb} {f:Qb->Option Bool} {p:Qb->Bool} (hs:s.length<=1000000) (hf:∀x∈s,f x=some (p x)):Qa2 s f=some (s.any p):=by unfold Qa2;rw[Qoq hs hf,<-QeR];rfl
def QwQ {s:List Qb} {f:Qb->Option Bool} {p:Qb->Bool} (hs:s.length<=1000000) (hf:∀x∈s,f x=some (p x)):Qcu s f=some (s.all p):=by unfold Qcu;rw[QpT (p:=λx=>!p x) hs (λx hx=>by show (f x).bind _=_;rw[hf x hx];rfl),<-QiL];rfl
def Qkn {s:List Qs} {f:Qs->Option Bool} {p:Qs->Bool} (hs:s.length<=1000000) (hf:∀x∈s,f x=some (p x)):QaE s f=some (s.any p):=by unfold QaE;rw[Qu7 hs hf,<-QeR];rfl
def Qz1 {s:List Qs} {f:Qs->Option Bool} {p:Qs->Bool} (hs:s.length<=1000000) (hf:∀x∈s,f x=some (p x)):QcO s f=some (s.all p):=by unfold QcO;rw[Qkn (p:=λx=>!p x) hs (λx hx=>by show (f x).bind _=_;rw[hf x hx];rfl),<-QiL];rfl
def QmO {s:List Qh} {f:Qh->Option Bool} {p:Qh->Bool} (hs:s.length<=1000000) (hf:∀x∈s,f x=some (p x)):QaQ s f=some (s.any p):=by unfold QaQ;rw[Qu8 hs hf,<-QeR];rfl
def Qz2 {s:List Qh} {f:Qh->Option Bool} {p:Qh->Bool} (hs:s.length<=1000000) (hf:∀x∈s,f x=some (p x)):QcQ s f=some (s.all p):=by unfold QcQ;rw[QmO (p:=λx=>!p x) hs (λx hx=>by show (f x).bind _=_;rw[hf x hx];rfl),<-QiL];rfl
def Qq4 {s:List Int} {f:Int->Option Bool} {p:Int->Bool} (hs:s.length<=1000000) (hf:∀x∈s,f x=some (p x)):Qa8 s f=some (s.any p):=by unfold Qa8;rw[Qu9 hs hf,<-QeR];rfl
def QoX {s:List Str} {f:Str->Option Bool} {p:Str->Bool} (hs:s.length<=1000000) (hf:∀x∈s,f x=some (p x)):QaV s f=some (s.any p):=by unfold QaV;rw[QrD hs hf,<-QeR];rfl
def QmP {s:List Str} {f:Str->Option Bool} {p:Str->Bool} (hs:s.length<=1000000) (hf:∀x∈s,f x=some (p x)):QbM s f=some (s.all p):=by unfold QbM;rw[QoX (p:=λx=>!p x) hs (λx hx=>by show (f x).bind _=_;rw[hf x hx];rfl),<-QiL];rfl
def QoY {s:List QF} {f:QF->Option Bool} {p:QF->Bool} (hs:s.length<=1000000) (hf:∀x∈s,f x=some (p x)):QaW s f=some (s.any p):=by unfold QaW;rw[QrE hs hf,<-QeR];rfl
def Qva {s:List QF} {f:QF->Option Bool} {p:QF->Bool} (hs:s.length<=1000000) (hf:∀x∈s,f x=some (p x)):Qb6 s f=some (s.all p):=by unfold Qb6;rw[QoY (p:=λx=>!p x) hs (λx hx=>by show (f x).bind _=_;rw[hf x hx];rfl),<-QiL];rfl
def inW (n a b:Int):Bool:=decide (n>=a)&&decide (n<=b)
def Qdi {n a b:Int} (h:inW n a b=true):a<=n/\n<=b:=by simpa[inW] using h
def QdG (c:Int):Bool:=inW c 97 122
def Qim (c:Int):Bool:=inW c 48 57
def Qfb (lo hi a b:Int):Bool:=(decide (lo>=a)&&decide (lo<=hi))&&decide (hi<=b)
def Q3 (s:Str):Bool:=inW (s.length:Int) 1 12&&(QdG ((s.headD 0).toNat:Int)&&(QZ s).all λc=>QdG c||Qim c)
def QfN (s:Str):Qaj s=some (Q3 s):=by
 unfold Qaj Q3
 cases s with
 | nil=>rfl
 | cons c s=>
  show (some (inW ((c::s).length:Int) 1 12)).bind _=_;simp only[Za]
  cases h:inW ((c::s).length:Int) 1 12 with
  | false=>rfl
  | true=>
   have hl:=(Qdi h).2;rw[show idx (c::s) (0:Int)=some c from rfl];simp only[Sim.opt,Bool.not_true,beq_self_eq_true,if_true,Za];rw[show QcN (c.toNat:Int)=some (QdG (c.toNat:Int)) from rfl];simp only[Za]
   cases hc:QdG (c.toNat:Int) with
   | false=>simp[hc]
   | true=>
    rw[Zc (by decide),Qq4 (p:=λc=>!(QdG c||Qim c)) (by simp only[QZ,Zy];omega) (λx _=>?_)]
    ·simp only[Za];rw[QiL];simp[hc]
    ·show (some (QdG x)).bind _=_;simp only[Za]
     cases h1:QdG x with
     | true=>rfl
     | false=>show some (true&&!Qim x)=_;rfl
def Qq5 {a b:List Str} (ha:a.length<=1000000):Qbt a b=some (decide (a=b)):=by
 unfold Qbt;by_cases hl:a.length=b.length
 ·rw[Zc (by simp[hl])];have:Ok ((Qu (λ(s7:Int)=>((if (decide (s7<(a.length:Int)))=true then (idx a s7).bind λt18=>(idx b s7).bind λt22=>(if (t18 !=t22)=true then (some (.inr (.inr false))) else (some (.inl (i64.wrap (s7+(1:Int)))))) else (some (.inr (.inl ())))):Option ((Int)⊕((Unit)⊕(Bool))))) (0:Int)).bind λ(e8:(Unit)⊕(Bool))=>(match e8 with | .inl _=>(some true) | .inr p26=>(some p26))) (λr=>r=decide (a=b)):=by
   refine Ok.bind (P:=λe:Unit⊕Bool=>(match e with | .inl _=>true | .inr p=>p)=decide (a=b)) (Ok.loop (λm s=>0<=s/\s+m=a.length/\a.take s.toNat=b.take s.toNat) a.length ⟨ZM _,by omega,by simp⟩ λm s hs=>?_) λe he=>by cases e<;>exact Ok.mk he
   obtain⟨h1,h2,h3⟩:=hs;obtain⟨k,rfl⟩:=ZK h1;simp only[Zr] at h3;refine Ok.ite (λhk=>?_) (λhk=>?_)
   ·have hk':k<a.length:=by simpa using hk
    rw[QY hk',QY (by omega)];simp only[Za];refine Ok.ite (λhne=>Ok.mk ?_) (λheq=>Ok.mk ⟨m - 1,by omega,?_⟩)
    ·show false=_;rw[Eq.comm,ZU];rintro rfl;simp at hne
    ·have heq':a[k]=b[k]:=by simpa using heq
     rw[QH hk' (by omega)];refine⟨by omega,by omega,?_⟩;rw[Zr,Zn hk',Zn (by omega),h3,heq']
   ·have hk':¬k<a.length:=by simpa using hk
    refine Ok.mk ?_;show true=_;rw[Zt (by omega),Zt (by omega)] at h3;simp[h3]
  obtain⟨r,hr,rfl⟩:=this;exact hr
 ·rw[Zb (by simp;omega)];have:a≠b:=λh=>hl (by rw[h]);simp[this]
def eqInt {a b:List Int} (ha:a.length<=1000000):Qcv a b=some (decide (a=b)):=by
 unfold Qcv;by_cases hl:a.length=b.length
 ·rw[Zc (by simp[hl])];have:Ok ((Qu (λ(s7:Int)=>((if (decide (s7<(a.length:Int)))=true then (idx a s7).bind λt18=>(idx b s7).bind λt22=>(if (t18 !=t22)=true then (some (.inr (.inr false))) else (some (.inl (i64.wrap (s7+(1:Int)))))) else (some (.inr (.inl ())))):Option ((Int)⊕((Unit)⊕(Bool))))) (0:Int)).bind λ(e8:(Unit)⊕(Bool))=>(match e8 with | .inl _=>(some true) | .inr p26=>(some p26))) (λr=>r=decide (a=b)):=by
   refine Ok.bind (P:=λe:Unit⊕Bool=>(match e with | .inl _=>true | .inr p=>p)=decide (a=b)) (Ok.loop (λm s=>0<=s/\s+m=a.length/\a.take s.toNat=b.take s.toNat) a.length ⟨ZM _,by omega,by simp⟩ λm s hs=>?_) λe he=>by cases e<;>exact Ok.mk he
   obtain⟨h1,h2,h3⟩:=hs;obtain⟨k,rfl⟩:=ZK h1;simp only[Zr] at h3;refine Ok.ite (λhk=>?_) (λhk=>?_)
   ·have hk':k<a.length:=by simpa using hk
    rw[QY hk',QY (by omega)];simp only[Za];refine Ok.ite (λhne=>Ok.mk ?_) (λheq=>Ok.mk ⟨m - 1,by omega,?_⟩)
    ·show false=_;rw[Eq.comm,ZU];rintro rfl;simp at hne
    ·have heq':a[k]=b[k]:=by simpa using heq
     rw[QH hk' (by omega)];refine⟨by omega,by omega,?_⟩;rw[Zr,Zn hk',Zn (by omega),h3,heq']
   ·have hk':¬k<a.length:=by simpa using hk
    refine Ok.mk ?_;show true=_;rw[Zt (by omega),Zt (by omega)] at h3;simp[h3]
  obtain⟨r,hr,rfl⟩:=this;exact hr
 ·rw[Zb (by simp;omega)];have:a≠b:=λh=>hl (by rw[h]);simp[this]
def Qvb (l:List Int) {k:Nat} (h:k<l.length):(l.take (k+1)).sum=(l.take k).sum+l[k]:=by rw[Zn h,sum_append];simp
def QjS (ws:List Str) (gs:List Int):Bool:=(gs.all λg=>inW g 0 1048576)&&(((inW (ws.length:Int) 1 12&&((ws.length:Int)==(gs.length:Int)))&&decide (gs.sum>0))&&ws.all Q3)
def Qpu {ws:List Str} {gs:List Int} (hw:ws.length<=1000000) (hg:gs.length<=1000000):Qcp ws gs=some (QjS ws gs):=by
  have key:Ok (Qcp ws gs) (λr=>r=QjS ws gs):=by
    unfold Qcp;refine Ok.bind (P:=λe:Int⊕Bool=>match e with | .inl s=>(gs.all λg=>inW g 0 1048576)=true/\s=gs.sum | .inr p=>p=false/\(gs.all λg=>inW g 0 1048576)=false)
      (Ok.loop (λm s=>0<=s.1/\s.1+m=gs.length/\((gs.take s.1.toNat).all λg=>inW g 0 1048576)=true/\s.2=(gs.take s.1.toNat).sum/\0<=s.2/\s.2<=s.1 * 1048576) gs.length ⟨ZM _,by dsimp only;omega,by simp,by simp,by simp,by simp⟩ λm s hs=>?_) λe he=>?_
    · obtain⟨i,t⟩:=s;obtain⟨h1,h2,h3,h4,h5,h6⟩:=hs;dsimp only at h1 h2 h3 h4 h5 h6;obtain⟨k,rfl⟩:=ZK h1;simp only[Zr] at h3 h4;refine Ok.ite (λhk=>?_) (λhk=>?_)
      · have hk':k<gs.length:=by simpa using hk
        dsimp only;rw[QY hk'];simp only[Za];show Ok ((some (inW gs[k] 0 1048576)).bind _) _;simp only[Za];refine Ok.ite (λhn=>Ok.mk ⟨rfl,?_⟩) (λhy=>Ok.mk ⟨m - 1,by omega,?_⟩)
        · rw[all_eq_false];exact⟨_,Zl hk',by simpa using hn⟩
        · have hy':inW gs[k] 0 1048576=true:=by simpa using hy
          have hb:=Qdi hy';dsimp only;rw[QH hk' (by omega),w64 (n:=t+gs[k]) (by omega) (by omega)];refine⟨by omega,by omega,?_,?_,by omega,by omega⟩
          · rw[Zr,Zn hk',all_append,h3];simp[hy']
          · rw[Zr,Qvb gs hk',h4]
      · have hk':¬k<gs.length:=by simpa using hk
        rw[Zt (by omega)] at h3 h4;exact Ok.mk ⟨h3,h4⟩
    · cases e with
      | inr p=>obtain⟨rfl,hp⟩:=he;refine Ok.mk ?_;unfold QjS;rw[hp];rfl
      | inl s=>
        obtain⟨hp,rfl⟩:=he;dsimp only;show Ok ((some (inW (ws.length:Int) 1 12)).bind _) _;simp only[Za];rw[QmP (p:=Q3) hw (λx _=>QfN x)];unfold QjS;rw[hp,Bool.true_and]
        cases (inW (ws.length:Int) 1 12&&((ws.length:Int)==(gs.length:Int)))&&decide (gs.sum>0) with
        | false=>exact Ok.mk rfl
        | true=>exact Ok.mk rfl
  obtain⟨r,hr,rfl⟩:=key;exact hr
def Qhd (f:Qb):Qb:=
  if f.Xi=0 then ⟨f.Xj,[],[],f.Xi,f.Lo,0,[],[]⟩
  else if f.Xi=1\/f.Xi=4\/f.Xi=5 then ⟨f.Xj,f.Of,[],f.Xi,f.Lo,f.Hi,[],[]⟩
  else if f.Xi=2 then ⟨f.Xj,[],[],f.Xi,f.Lo,f.Hi,[],[]⟩
  else if f.Xi=3 then ⟨f.Xj,[],[],f.Xi,0,0,f.Words,f.Xf⟩
  else if f.Xi=6 then ⟨f.Xj,f.Of,[],f.Xi,0,0,[],[]⟩
  else if f.Xi=7 then ⟨f.Xj,f.Of,f.Up,f.Xi,f.Lo,f.Hi,[],[]⟩
  else if f.Xi=8 then ⟨f.Xj,f.Of,f.Up,f.Xi,0,0,[],[]⟩
  else ⟨f.Xj,[],[],f.Xi,0,0,[],[]⟩
def Qz3 (f:Qb):QeK f=some (Qhd f):=by
  obtain⟨n,o,u,k,lo,hi,w,g⟩:=f;unfold QeK Qhd;by_cases h0:k=0
  · subst h0;rfl
  by_cases h1:k=1
  · subst h1;rfl
  by_cases h4:k=4
  · subst h4;rfl
  by_cases h5:k=5
  · subst h5;rfl
  by_cases h2:k=2
  · subst h2;rfl
  by_cases h3:k=3
  · subst h3;rfl
  by_cases h6:k=6
  · subst h6;rfl
  by_cases h7:k=7
  · subst h7;rfl
  by_cases h8:k=8
  · subst h8;rfl
  simp[h0,h1,h2,h3,h4,h5,h6,h7,h8]
def QgD (a b:Qb):Bool:=(((((((a.Xj==b.Xj)&&(a.Of==b.Of))&&(a.Up==b.Up))&&(a.Xi==b.Xi))&&(a.Lo==b.Lo))&&(a.Hi==b.Hi))&&decide (a.Words=b.Words))&&decide (a.Xf=b.Xf)
def QmQ {a b:Qb} (h1:a.Words.length<=1000000) (h2:a.Xf.length<=1000000):QbE a b=some (QgD a b):=by
  unfold QbE QgD;rw[Qq5 h1,eqInt h2]
  cases ((((((a.Xj==b.Xj)&&(a.Of==b.Of))&&(a.Up==b.Up))&&(a.Xi==b.Xi))&&(a.Lo==b.Lo))&&(a.Hi==b.Hi)) with
  | false=>rfl
  | true=>simp only[Sim.opt,Bool.true_and,beq_self_eq_true,if_true,Za];cases decide (a.Words=b.Words)<;>rfl
def QgE (f:Qb):Bool:=
  if f.Xi=0 then inW f.Lo (-1048576) 1048576
  else if f.Xi=1 then Q3 f.Of&&Qfb f.Lo f.Hi 0 65536
  else if f.Xi=2 then Qfb f.Lo f.Hi (-1048576) 1048576
  else if f.Xi=3 then QjS f.Words f.Xf
  else if f.Xi=4 then ((f.Of==[])||Q3 f.Of)&&Qfb f.Lo f.Hi (-1048576) 1048576
  else if f.Xi=5 then Q3 f.Of&&Qfb f.Lo f.Hi 0 32
  else if f.Xi=6 then Q3 f.Of
  else if f.Xi=7 then (Q3 f.Of&&Q3 f.Up)&&Qfb f.Lo f.Hi 0 1048576
  else if f.Xi=8 then Q3 f.Of&&Q3 f.Up
  else false
def QaX (f:Qb):Bool:=(Q3 f.Xj&&QgD f (Qhd f))&&QgE f
def Qtc {f:Qb} (h1:f.Words.length<=1000000) (h2:f.Xf.length<=1000000):Qdd f=some (QaX f):=by
  unfold Qdd QaX;rw[QfN,Qz3];simp only[Za]
  cases Q3 f.Xj with
  | false=>rfl
  | true=>
    simp only[Sim.opt,Bool.not_true,beq_self_eq_true,if_true,Za];rw[QmQ h1 h2];simp only[Za]
    cases QgD f (Qhd f) with
    | false=>rfl
    | true=>
      simp only[QfN,Qpu h1 h2,Bool.true_and,Bool.not_true,Bool.or_self];rw[Zc (by decide)];unfold QgE;by_cases c0:f.Xi=0
      · rw[Zb (by simp[c0]),Zb c0];rfl
      rw[Zc (by simpa using c0),Zc c0];by_cases c1:f.Xi=1
      · rw[Zb (by simp[c1]),Zb c1];cases Q3 f.Of<;>rfl
      rw[Zc (by simpa using c1),Zc c1];by_cases c2:f.Xi=2
      · rw[Zb (by simp[c2]),Zb c2];rfl
      rw[Zc (by simpa using c2),Zc c2];by_cases c3:f.Xi=3
      · rw[Zb (by simp[c3]),Zb c3];rfl
      rw[Zc (by simpa using c3),Zc c3];by_cases c4:f.Xi=4
      · rw[Zb (by simp[c4]),Zb c4];cases (f.Of==[])<;>cases Q3 f.Of<;>rfl
      rw[Zc (by simpa using c4),Zc c4];by_cases c5:f.Xi=5
      · rw[Zb (by simp[c5]),Zb c5];cases Q3 f.Of<;>rfl
      rw[Zc (by simpa using c5),Zc c5];by_cases c6:f.Xi=6
      · rw[Zb (by simp[c6]),Zb c6];rfl
      rw[Zc (by simpa using c6),Zc c6];by_cases c7:f.Xi=7
      · rw[Zb (by simp[c7]),Zb c7];cases Q3 f.Of<;>cases Q3 f.Up<;>rfl
      rw[Zc (by simpa using c7),Zc c7];by_cases c8:f.Xi=8
      · rw[Zb (by simp[c8]),Zb c8];cases Q3 f.Of<;>rfl
      rw[Zc (by simpa using c8),Zc c8]
def Qfc (k:Qf):Bool:=((Q3 k.Xj&&Qfb k.Lo k.Hi 0 65536)&&decide ((k.Xb.length:Int)<=10))&&k.Xb.all QaX
def QmR (l:List Qb):Prop:=l.length<=1000000/\∀f∈l,f.Words.length<=1000000/\f.Xf.length<=1000000
def Qvc {k:Qf} (h:QmR k.Xb):Qdy k=some (Qfc k):=by
  unfold Qdy Qfc;rw[QfN,QwQ (p:=QaX) h.1 (λf hf=>Qtc (h.2 f hf).1 (h.2 f hf).2)];simp only[Za]
  cases Q3 k.Xj with
  | false=>rfl
  | true=>
    show (opt true (some (Qfb k.Lo k.Hi 0 65536)) default).bind _=_;simp only[Sim.opt,Bool.true_and,if_true,Za]
    cases Qfb k.Lo k.Hi 0 65536 with
    | false=>rfl
    | true=>
      cases hd:decide ((k.Xb.length:Int)<=10) with
      | false=>rfl
      | true=>rfl
def Qi8 (n:Int) (m:QF):Bool:=inW m.a0 0 (n - 1)&&inW m.a1 0 (n - 1)
def QfU (x:Qs):Bool:=(((Q3 x.Xj&&inW (x.Xe.length:Int) 1 12)&&x.Xe.all Q3)&&decide ((x.Xg.length:Int)<=32))&&x.Xg.all (Qi8 (x.Xe.length:Int))
def Qvd {x:Qs} (h1:x.Xe.length<=1000000) (h2:x.Xg.length<=1000000):Qdz x=some (QfU x):=by
  have hm:∀m∈x.Xg,QcP m (x.Xe.length:Int)=some (Qi8 (x.Xe.length:Int) m):=λm _=>by unfold QcP Qi8;rw[w64 (by omega) (by omega)];show (some (inW m.a0 0 ((x.Xe.length:Int) - 1))).bind _=_;simp only[Za];cases inW m.a0 0 ((x.Xe.length:Int) - 1)<;>rfl
  unfold Qdz QfU;rw[QfN,QmP (p:=Q3) h1 (λs _=>QfN s),Qva (p:=Qi8 (x.Xe.length:Int)) h2 hm];simp only[Za]
  cases Q3 x.Xj with
  | false=>rfl
  | true=>
    show (opt true (some (inW (x.Xe.length:Int) 1 12)) default).bind _=_;simp only[Sim.opt,Bool.true_and,if_true,Za]
    cases inW (x.Xe.length:Int) 1 12 with
    | false=>rfl
    | true=>
      simp only[Bool.true_and,beq_self_eq_true,if_true,Za]
      cases x.Xe.all Q3 with
      | false=>rfl
      | true=>cases decide ((x.Xg.length:Int)<=32)<;>rfl
def Qfd (r:Qh):Bool:=((((Q3 r.Xj&&Q3 r.Xi)&&((r.A==[])||Q3 r.A))&&((r.B==[])||Q3 r.B))&&(r.A++r.B !=[]))&&inW r.N (-1048576) 1048576
def QbN {s:Str} (h:Q3 s=true):s.length<=12:=by unfold Q3 at h;simp only[Zk] at h;have:=(Qdi h.1).2;omega
def Qve (r:Qh):QdA r=some (Qfd r):=by
  have len:∀s:Str,((s==[])||Q3 s)=true->s.length<=12:=λs h=>by
    rcases ZY _ _ |>.mp h with h | h
    · have:s=[]:=by simpa using h
      subst this;simp
    · exact QbN h
  unfold QdA Qfd;simp only[QfN];simp only[Za]
  cases Q3 r.Xj with
  | false=>rfl
  | true=>
    simp only[Sim.opt,Bool.true_and,beq_self_eq_true,if_true,Za]
    cases Q3 r.Xi with
    | false=>rfl
    | true=>
      simp only[Bool.true_and,beq_self_eq_true,Bool.true_and];have la:=len r.A;have lb:=len r.B
      cases ha:(r.A==[])<;>cases hna:Q3 r.A<;>cases hb:(r.B==[])<;>cases hnb:Q3 r.B<;>first
        | rfl
        | (rw[ha,hna] at la;rw[hb,hnb] at lb
           have e:cat (r.A.length+r.B.length)=some ():=Zb (by have:=la rfl;have:=lb rfl;omega);simp only[e,Bool.false_or,Bool.or_false,Bool.true_or,Bool.or_true,Bool.and_true,Bool.true_and,Bool.and_self,beq_self_eq_true,if_true,Za];cases (r.A++r.B !=[])<;>rfl)
def Qin:∀(k u:Nat),u<10 ^ (k+1)->(Lib.decDigits u).length<=k+1
 | 0,u,h=>by rw[Lib.decDigits,dif_pos (by simpa using h)];simp
 | k+1,u,h=>by
  rw[Lib.decDigits];split
  ·simp
  ·have:=Qin k (u / 10) (by rw[Nat.pow_succ] at h;omega);rw[Zd,length_singleton];omega
def Qcw {n:Int} (h:I64 n):(Lib.itoa n).length<=20:=by
 unfold I64 at h;unfold Lib.itoa;split
 ·have:=Qin 18 n.natAbs (by omega);rw[Zh];omega
 ·have:=Qin 18 n.toNat (by omega);omega
def Qz4 {n:Int} (h:I64 n):QlL n=some (Lib.itoa n):=Zb h
def Qd7:AnyV->Str
 | .int n=>Lib.itoa n
 | .str s=>s
def VOk:AnyV->Prop
 | .int n=>I64 n
 | .str s=>s.length<=100
def QlY {v:AnyV} (h:VOk v):(Qd7 v).length<=100:=by
 cases v with
 | int n=>have:=Qcw h;show (Lib.itoa n).length<=100;omega
 | str s=>exact h
def toks (l:List AnyV):Str:=l.flatMap λv=>32::Qd7 v
def QnE {l:List AnyV} (h:∀v∈l,VOk v):(toks l).length<=l.length * 101:=by
 induction l with
 | nil=>simp[toks]
 | cons v l ih=>have h1:=ih λu hu=>h u (ZP _ hu);have h2:=QlY (h v Zp);have e:toks (v::l)=(32::Qd7 v)++toks l:=rfl;rw[e,Zd,Zh,Zh];omega
def QeW (w:Str) (l:List AnyV):Str:=w++toks l++[10]
def QfV {a b:Str} (h:a.length+b.length<=68719476736):Qas a b=some (a++b):=Zb h
def Qj8 {w:Str} {l:List AnyV} (h1:1<=w.length) (h2:w.length<=10) (hl:l.length<=1000) (hv:∀v∈l,VOk v):QaB w l=some (QeW w l):=by
 have key:Ok (QaB w l) (λr=>r=QeW w l):=by
  unfold QaB;rw[QfV (by simp;omega)];simp only[Za,ZV];refine Ok.bind (P:=λr=>r=w++toks l) (Ok.loop (λm s=>0<=s.1/\s.1+m=l.length/\s.2=w++toks (l.take s.1.toNat)) l.length ⟨ZM _,by dsimp only;omega,by simp[toks]⟩ λm s hs=>?_) λr hr=>?_
  ·obtain⟨i,t⟩:=s;obtain⟨e1,e2,e3⟩:=hs;dsimp only at e1 e2 e3;obtain⟨k,rfl⟩:=ZK e1;rw[Zr] at e3;subst e3;refine Ok.ite (λhk=>?_) (λhk=>?_)
   ·have hk':k<l.length:=by simpa using hk
    have hvk:=hv _ (Zl hk');have hlen:=QnE (l:=l.take k) λv hm=>hv v (mem_of_mem_take hm);have htl:=QlY hvk;have hlk:(l.take k).length<=1000:=by rw[ZE];omega
    dsimp only;rw[QY hk'];simp only[Za];have eb:Qhr (w++toks (l.take k)) 32=some (w++toks (l.take k)++[32]):=Zb ⟨by decide,by decide,by rw[Zd];omega⟩;rw[eb];simp only[Za];refine Ok.bind (P:=λp=>p=w++toks (l.take k)++[32]++Qd7 l[k]) ?_ λp hp=>Ok.mk ⟨m - 1,by omega,?_⟩
    ·cases hk2:l[k] with
     | int n=>rw[hk2] at hvk htl;show Ok (if true=true then _ else _) _;rw[Zb rfl];show Ok ((QlL n).bind _) _;rw[Qz4 hvk];simp only[Za];have hi:=Qcw hvk;rw[QfV (by simp only[Zd,length_singleton];omega)];exact Ok.mk rfl
     | str s=>rw[hk2] at hvk htl;show Ok (if false=true then _ else ((if true=true then (Qas (w++toks (l.take k)++[32]) s).bind _ else _)).bind _) _;rw[Zc (by decide),Zb rfl];have hs:s.length<=100:=hvk;rw[QfV (by simp only[Zd,length_singleton];omega)];exact Ok.mk rfl
    ·subst hp;dsimp only;rw[QH hk' (by omega)];refine⟨by omega,by omega,?_⟩;rw[Zr,Zn hk'];simp only[toks,Zx,flatMap_cons,flatMap_nil,ZX,Zu,cons_append,ZV]
   ·have hk':¬k<l.length:=by simpa using hk
    refine Ok.mk ?_;dsimp only;rw[Zt (by omega)]
  ·subst hr;have hlen:=QnE hv;have eb:QfT (w++toks l)=some (w++toks l):=Zc λh=>by
    have:=ZQ length h;rw[Zd,Zi] at this;omega
   rw[eb];simp only[Za];exact Ok.cat (by rw[Zd,length_singleton];omega) (Ok.mk rfl)
 obtain⟨r,hr,rfl⟩:=key;exact hr
def QgZ {w:Str} {l:List AnyV} (h2:w.length<=10) (hv:∀v∈l,VOk v):(QeW w l).length<=11+l.length * 101:=by have:=QnE hv;unfold QeW;rw[Zd,Zd,length_singleton];omega
def Qbc (s:Str):Str:=if s=[] then [45] else s
def QnF (s:Str):QcH s=some (Qbc s):=by
 unfold QcH QeE;have key:∀body:Int->Option (Int⊕(Unit⊕Str)),(body 0=if (s !=[])=true then some (.inr (.inr s)) else some (.inl 1))->body 1=some (.inr (.inr [45]))->
   Qu body 0=some (.inr (Qbc s)):=λbody h0 h1=>by
  rw[Qc8,h0];unfold Qbc;by_cases hs:s=[]
  ·rw[Zc (by simp[hs]),Zb hs];show Qu body 1=_;rw[Qc8,h1]
  ·rw[Zb (by simpa using hs),Zc hs]
 rw[key _ rfl rfl];rfl
def QaP (f:Qb):List AnyV:=
 if f.Xi=0 then [.str f.Xj,.int f.Lo]
 else if f.Xi=2 then [.str f.Xj,.int f.Lo,.int f.Hi]
 else if f.Xi=3 then [.str f.Xj,.int (f.Words.length:Int)]++(f.Words.zip f.Xf).flatMap λp=>[.str p.1,.int p.2]
 else if f.Xi=6 then [.str f.Xj,.str f.Of]
 else if f.Xi=7 then [.str f.Xj,.str f.Up,.str f.Of,.int f.Lo,.int f.Hi]
 else if f.Xi=8 then [.str f.Xj,.str f.Up,.str f.Of]
 else [.str f.Xj,.str (Qbc f.Of),.int f.Lo,.int f.Hi]
def QlZ (f:Qb):Str:=Qkg[f.Xi.toNat]?.getD []
def Qfe (f:Qb):Str:=QeW (QlZ f) (QaP f)
def QfG {s:Str} (h:Q3 s=true):VOk (.str s):=by have:=QbN h;show s.length<=100;omega
def QiM {s:Str} (h:((s==[])||Q3 s)=true):VOk (.str (Qbc s)):=by
 unfold Qbc;by_cases hs:s=[]
 ·rw[Zb hs];show ([45]:Str).length<=100;decide
 ·rw[Zc hs];have:Q3 s=true:=by simpa[hs] using h
  exact QfG this
def Qb2 {n:Int} (h:-100000000<=n/\n<=100000000):VOk (.int n):=by show I64 n;unfold I64;omega
def Qvf {l:List Str} {g:List Int} (h:l.length=g.length) (k:Nat) (hk:k<l.length):(((l.zip g).take k).flatMap λp=>[AnyV.str p.1,AnyV.int p.2])++[AnyV.str l[k],AnyV.int (g[k]'(by omega))]=((l.zip g).take (k+1)).flatMap λp=>[AnyV.str p.1,AnyV.int p.2]:=by rw[Zn (by rw[length_zip];omega),Zx,getElem_zip];rfl
def Qpv (l:List (Str×Int)):(l.flatMap λp=>[AnyV.str p.1,AnyV.int p.2]).length=2 * l.length:=by
 induction l with
 | nil=>rfl
 | cons a l ih=>rw[flatMap_cons,Zd,ih];simp;omega
structure QoZ (f:Qb):Prop where
 kind:0<=f.Xi/\f.Xi<=8
 items:∀v∈QaP f,VOk v
 count:(QaP f).length<=30
 pick:f.Xi=3->f.Words.length=f.Xf.length/\f.Words.length<=12
def QeZ {lo hi a b:Int} (h:Qfb lo hi a b=true):a<=lo/\lo<=hi/\hi<=b:=by simp only[Qfb,Zk,ZA] at h;omega
def Qjr {f:Qb} (h:QaX f=true):QoZ f:=by
 unfold QaX at h;simp only[Zk] at h;obtain⟨⟨hn,_⟩,hp⟩:=h;have hnv:=QfG hn;unfold QgE at hp;by_cases c0:f.Xi=0
 ·rw[Zb c0] at hp;have e:QaP f=[.str f.Xj,.int f.Lo]:=by unfold QaP;rw[Zb c0]
  refine⟨by omega,?_,by rw[e];simp,λh=>by omega⟩;have:=Qdi hp;rw[e];simp only[Zo,ZG,ZS,ZO,forall_eq];exact⟨hnv,Qb2 (by omega)⟩
 rw[Zc c0] at hp;by_cases c1:f.Xi=1
 ·rw[Zb c1] at hp;simp only[Zk] at hp;have e:QaP f=[.str f.Xj,.str (Qbc f.Of),.int f.Lo,.int f.Hi]:=by unfold QaP;simp[c1]
  have:=QeZ hp.2;refine⟨by omega,?_,by rw[e];simp,λh=>by omega⟩;rw[e];simp only[Zo,ZG,ZS,ZO,forall_eq];exact⟨hnv,QiM (by rw[hp.1];simp),Qb2 (by omega),Qb2 (by omega)⟩
 rw[Zc c1] at hp;by_cases c2:f.Xi=2
 ·rw[Zb c2] at hp;have e:QaP f=[.str f.Xj,.int f.Lo,.int f.Hi]:=by unfold QaP;simp[c2]
  have:=QeZ hp;refine⟨by omega,?_,by rw[e];simp,λh=>by omega⟩;rw[e];simp only[Zo,ZG,ZS,ZO,forall_eq];exact⟨hnv,Qb2 (by omega),Qb2 (by omega)⟩
 rw[Zc c2] at hp;by_cases c3:f.Xi=3
 ·rw[Zb c3] at hp;simp only[QjS,Zk,Zw,Yo] at hp;obtain⟨hg,⟨⟨hw,hl⟩,_⟩,hws⟩:=hp;have hw':=(Qdi hw).2;have hl':f.Words.length=f.Xf.length:=by omega
  have e:QaP f=[.str f.Xj,.int (f.Words.length:Int)]++(f.Words.zip f.Xf).flatMap λp=>[.str p.1,.int p.2]:=by unfold QaP;simp[c3]
  refine⟨by omega,?_,?_,λ_=>⟨hl',by omega⟩⟩
  ·rw[e];intro v hv;rcases ZF.1 hv with hv | hv
   ·simp only[Zo,ZG,ZS] at hv;rcases hv with rfl | rfl
    ·exact hnv
    ·exact Qb2 (by omega)
   ·obtain⟨p,hp,hv⟩:=ZZ.1 hv;obtain⟨a,b⟩:=p;have hz:=of_mem_zip hp;simp only[Zo,ZG,ZS] at hv;rcases hv with rfl | rfl
    ·exact QfG (hws _ hz.1)
    ·have:=Qdi (hg _ hz.2);exact Qb2 (by omega)
  ·rw[e,Zd,Qpv,length_zip];simp only[Zh,Zi];omega
 rw[Zc c3] at hp;by_cases c4:f.Xi=4
 ·rw[Zb c4] at hp;simp only[Zk] at hp;have e:QaP f=[.str f.Xj,.str (Qbc f.Of),.int f.Lo,.int f.Hi]:=by unfold QaP;simp[c4]
  have:=QeZ hp.2;refine⟨by omega,?_,by rw[e];simp,λh=>by omega⟩;rw[e];simp only[Zo,ZG,ZS,ZO,forall_eq];exact⟨hnv,QiM hp.1,Qb2 (by omega),Qb2 (by omega)⟩
 rw[Zc c4] at hp;by_cases c5:f.Xi=5
 ·rw[Zb c5] at hp;simp only[Zk] at hp;have e:QaP f=[.str f.Xj,.str (Qbc f.Of),.int f.Lo,.int f.Hi]:=by unfold QaP;simp[c5]
  have:=QeZ hp.2;refine⟨by omega,?_,by rw[e];simp,λh=>by omega⟩;rw[e];simp only[Zo,ZG,ZS,ZO,forall_eq];exact⟨hnv,QiM (by rw[hp.1];simp),Qb2 (by omega),Qb2 (by omega)⟩
 rw[Zc c5] at hp;by_cases c6:f.Xi=6
 ·rw[Zb c6] at hp;have e:QaP f=[.str f.Xj,.str f.Of]:=by unfold QaP;simp[c6]
  refine⟨by omega,?_,by rw[e];simp,λh=>by omega⟩;rw[e];simp only[Zo,ZG,ZS,ZO,forall_eq];exact⟨hnv,QfG hp⟩
 rw[Zc c6] at hp;by_cases c7:f.Xi=7
 ·rw[Zb c7] at hp;simp only[Zk] at hp;have e:QaP f=[.str f.Xj,.str f.Up,.str f.Of,.int f.Lo,.int f.Hi]:=by unfold QaP;simp[c7]
  have:=QeZ hp.2;refine⟨by omega,?_,by rw[e];simp,λh=>by omega⟩;rw[e];simp only[Zo,ZG,ZS,ZO,forall_eq];exact⟨hnv,QfG hp.1.2,QfG hp.1.1,Qb2 (by omega),Qb2 (by omega)⟩
 rw[Zc c7] at hp;by_cases c8:f.Xi=8
 ·rw[Zb c8] at hp;simp only[Zk] at hp;have e:QaP f=[.str f.Xj,.str f.Up,.str f.Of]:=by unfold QaP;simp[c8]
  refine⟨by omega,?_,by rw[e];simp,λh=>by omega⟩;rw[e];simp only[Zo,ZG,ZS,ZO,forall_eq];exact⟨hnv,QfG hp.2,QfG hp.1⟩
 rw[Zc c8] at hp;cases hp
def Qpw {f:Qb} (h:0<=f.Xi/\f.Xi<=8):idx Qkg f.Xi=some (QlZ f)/\1<=(QlZ f).length/\(QlZ f).length<=10:=by
 obtain⟨k,hk⟩:=ZK h.1;have hk8:k<=8:=by omega
 unfold QlZ;rw[hk,QeY,Zr];have:k=0\/k=1\/k=2\/k=3\/k=4\/k=5\/k=6\/k=7\/k=8:=by omega
 rcases this with rfl | rfl | rfl | rfl | rfl | rfl | rfl | rfl | rfl<;>exact⟨rfl,by decide,by decide⟩
def QwR {f:Qb} (h:QoZ f):Qeb f=some (Qfe f):=by
 obtain⟨e0,w1,w2⟩:=Qpw h.kind;have fin:QaB (QlZ f) (QaP f)=some (Qfe f):=Qj8 w1 w2 (by have:=h.count;omega) h.items;unfold Qeb;rw[e0];simp only[Za];by_cases c0:f.Xi=0
 ·rw[Zb (by simp[c0])];have e:QaP f=[.str f.Xj,.int f.Lo]:=by unfold QaP;simp[c0]
  rw[<-e,fin];rfl
 rw[Zc (by simpa using c0)];by_cases c2:f.Xi=2
 ·rw[Zb (by simp[c2])];have e:QaP f=[.str f.Xj,.int f.Lo,.int f.Hi]:=by unfold QaP;simp[c2]
  rw[<-e,fin];rfl
 rw[Zc (by simpa using c2)];by_cases c3:f.Xi=3
 ·rw[Zb (by simp[c3])];obtain⟨p1,p2⟩:=h.pick c3;have e:QaP f=[.str f.Xj,.int (f.Words.length:Int)]++(f.Words.zip f.Xf).flatMap λp=>[.str p.1,.int p.2]:=by unfold QaP;simp[c3]
  refine Qkl f.Words.length (λn=>((n:Int),[.str f.Xj,.int (f.Words.length:Int)]++((f.Words.zip f.Xf).take n).flatMap λp=>[.str p.1,.int p.2])) _ (by simp) (λn hn=>?_) (Zc (by simp)) ?_
  ·have hlen:(((f.Words.zip f.Xf).take n).flatMap λp=>[AnyV.str p.1,AnyV.int p.2]).length<=100:=by
    rw[Qpv,ZE,length_zip];omega
   rw[Zb (by simpa using hn)];dsimp only;rw[QY hn,QY (by omega)];simp only[Za];rw[Qb4 (by simp only[Zd,Zh,Zi];omega),QH hn (by omega),<-Qvf p1 n hn,Zu];rfl
  ·dsimp only;rw[Zt (by rw[length_zip];omega),<-e,fin];rfl
 rw[Zc (by simpa using c3)];by_cases c6:f.Xi=6
 ·rw[Zb (by simp[c6])];have e:QaP f=[.str f.Xj,.str f.Of]:=by unfold QaP;simp[c6]
  rw[<-e,fin];rfl
 rw[Zc (by simpa using c6)];by_cases c7:f.Xi=7
 ·rw[Zb (by simp[c7])];have e:QaP f=[.str f.Xj,.str f.Up,.str f.Of,.int f.Lo,.int f.Hi]:=by unfold QaP;simp[c7]
  rw[<-e,fin];rfl
 rw[Zc (by simpa using c7)];by_cases c8:f.Xi=8
 ·rw[Zb (by simp[c8])];have e:QaP f=[.str f.Xj,.str f.Up,.str f.Of]:=by unfold QaP;simp[c8]
  rw[<-e,fin];rfl
 rw[Zc (by simpa using c8),QnF];simp only[Za];have e:QaP f=[.str f.Xj,.str (Qbc f.Of),.int f.Lo,.int f.Hi]:=by unfold QaP;simp[c0,c2,c3,c6,c7,c8]
 rw[<-e,fin];rfl
def QhL {f:Qb} (h:QoZ f):(Qfe f).length<=4000:=by have:=QgZ (Qpw h.kind).2.2 h.items;have:=h.count;unfold Qfe;omega
def Qef {α:Type} (l:List α) (g:α->Str) (B:Nat) (hB:∀a∈l,(g a).length<=B) (a0:Str) {body:Int×Str->Option ((Int×Str)⊕Str)}
  (hs:∀k (h:k<l.length) acc,acc.length<=a0.length+k * B->body ((k:Int),acc)=some (.inl (((k+1:Nat):Int),acc++g l[k]))) (he:∀acc,body ((l.length:Int),acc)=some (.inr acc)):
  Qu body ((0:Int),a0)=some (a0++l.flatMap g):=by
 have hlen:∀n,n<=l.length->((l.take n).flatMap g).length<=n * B:=λn=>by
  induction n with
  | zero=>intro _;simp
  | succ n ih=>intro hn;rw[Zn (by omega),Zx,Zd,Nat.succ_mul];have h1:=ih (by omega);have h2:=hB _ (Zl (show n<l.length by omega));simp only[flatMap_cons,flatMap_nil,ZX];omega
 have h:=QeA (body:=body) l.length (λn=>((n:Int),a0++(l.take n).flatMap g)) (a0++l.flatMap g) (λk hk=>?_) ?_
 ·simpa using h
 ·rw[hs k hk _ (by rw[Zd];have:=hlen k (by omega);omega),Zn hk,Zx];simp
 ·rw[he];simp
def QfH (k:Qf):Str:=QeW [107,105,110,100] [.str k.Xj,.int k.Lo,.int k.Hi]++k.Xb.flatMap Qfe
def Qh3 (m:QF):Str:=QeW [109,111,118,101] [.int m.a0,.int m.a1]
def Qgz (l:Qs):Str:=QeW [108,105,102,101] ([.str l.Xj,.int (l.Xe.length:Int)]++l.Xe.map .str)++l.Xg.flatMap Qh3
def QfO (r:Qh):List AnyV:=[.str r.Xj,.str r.Xi,.str (Qbc r.A),.str (Qbc r.B),.int r.N]
def QiN (r:Qh):Str:=QeW [114,117,108,101] (QfO r)
def srcS (x:Qe):Str:=QeW [115,99,104,101,109,97] [.int x.Version]++x.Xa.flatMap QfH++x.Xd.flatMap Qgz++x.Xc.flatMap QiN
def Qdj {k:Qf} (h:Qfc k=true):(∀v∈[AnyV.str k.Xj,.int k.Lo,.int k.Hi],VOk v)/\k.Xb.length<=10/\∀f∈k.Xb,QaX f=true:=by simp only[Qfc,Zk,Zw,ZA] at h;obtain⟨⟨⟨h1,h2⟩,h3⟩,h4⟩:=h;have:=QeZ h2;refine⟨?_,by omega,h4⟩;simp only[Zo,ZG,ZS,ZO,forall_eq];exact⟨QfG h1,Qb2 (by omega),Qb2 (by omega)⟩
def Qg0 {α:Type} {l:List α} {g:α->Str} {B:Nat} (h:∀a∈l,(g a).length<=B):(l.flatMap g).length<=l.length * B:=by
 induction l with
 | nil=>simp
 | cons a l ih=>have h1:=ih λb hb=>h b (ZP _ hb);have h2:=h a Zp;rw[flatMap_cons,Zd,Zh,Nat.succ_mul];omega
def QkM {k:Qf} (h:Qfc k=true):(QfH k).length<=50000:=by obtain⟨h1,h2,h3⟩:=Qdj h;have e1:=QgZ (w:=[107,105,110,100]) (by decide) h1;have e2:=Qg0 (l:=k.Xb) (g:=Qfe) (B:=4000) λf hf=>QhL (Qjr (h3 f hf));unfold QfH;rw[Zd];simp only[Zh,Zi] at e1;omega
def Qvg {n:Int} (hn:n<=1000) {m:QF} (h:Qi8 n m=true):∀v∈[AnyV.int m.a0,.int m.a1],VOk v:=by simp only[Qi8,Zk] at h;have h1:=Qdi h.1;have h2:=Qdi h.2;simp only[Zo,ZG,ZS,ZO,forall_eq];exact⟨Qb2 (by omega),Qb2 (by omega)⟩
def Qvh {l:Qs} (h:QfU l=true):(∀v∈[AnyV.str l.Xj,.int (l.Xe.length:Int)]++l.Xe.map .str,VOk v)/\l.Xe.length<=12/\l.Xg.length<=32/\∀m∈l.Xg,∀v∈[AnyV.int m.a0,.int m.a1],VOk v:=by
 simp only[QfU,Zk,Zw,ZA] at h;obtain⟨⟨⟨⟨h1,h2⟩,h3⟩,h4⟩,h5⟩:=h;have hl:=(Qdi h2).2;refine⟨λv hv=>?_,by omega,by omega,λm hm=>Qvg (by omega) (h5 m hm)⟩;rcases ZF.1 hv with hv | hv
 ·simp only[Zo,ZG,ZS] at hv;rcases hv with rfl | rfl
  ·exact QfG h1
  ·exact Qb2 (by omega)
 ·obtain⟨s,hs,rfl⟩:=ZJ.1 hv;exact QfG (h3 s hs)
def Qi9 {m:QF} (h:∀v∈[AnyV.int m.a0,.int m.a1],VOk v):(Qh3 m).length<=300:=by have:=QgZ (w:=[109,111,118,101]) (by decide) h;simp only[Zh,Zi] at this;unfold Qh3;omega
def Qja {l:Qs} (h:QfU l=true):(Qgz l).length<=20000:=by obtain⟨h1,h2,h3,h4⟩:=Qvh h;have e1:=QgZ (w:=[108,105,102,101]) (by decide) h1;have e2:=Qg0 (l:=l.Xg) (g:=Qh3) (B:=300) λm hm=>Qi9 (h4 m hm);unfold Qgz;rw[Zd];simp only[Zd,Zh,Zi,Zy] at e1;omega
def Qvi {r:Qh} (h:Qfd r=true):∀v∈QfO r,VOk v:=by simp only[Qfd,Zk] at h;obtain⟨⟨⟨⟨⟨h1,h2⟩,h3⟩,h4⟩,_⟩,h5⟩:=h;have:=Qdi h5;unfold QfO;simp only[Zo,ZG,ZS,ZO,forall_eq];exact⟨QfG h1,QfG h2,QiM h3,QiM h4,Qb2 (by omega)⟩
def QkN {r:Qh} (h:Qfd r=true):(QiN r).length<=1000:=by have:=QgZ (w:=[114,117,108,101]) (by decide) (Qvi h);have e:(QfO r).length=5:=rfl;unfold QiN;omega
def QhE (x:Qe):Bool:=((((inW x.Version 0 1048576&&decide ((x.Xa.length:Int)<=6))&&decide ((x.Xd.length:Int)<=6))&&decide ((x.Xc.length:Int)<=16))&&x.Xa.all Qfc)&&x.Xd.all QfU&&x.Xc.all Qfd
structure Qh4 (x:Qe):Prop where
 version:0<=x.Version/\x.Version<=1048576
 kinds:x.Xa.length<=6
 lives:x.Xd.length<=6
 rules:x.Xc.length<=16
 kind:∀k∈x.Xa,Qfc k=true
 life:∀l∈x.Xd,QfU l=true
 rule:∀r∈x.Xc,Qfd r=true
def QkC {x:Qe} (h:QhE x=true):Qh4 x:=by simp only[QhE,Zk,Zw,ZA] at h;obtain⟨⟨⟨⟨⟨⟨h1,h2⟩,h3⟩,h4⟩,h5⟩,h6⟩,h7⟩:=h;exact⟨Qdi h1,by omega,by omega,by omega,h5,h6,h7⟩
def Qvj {x:Qe} (h:Qh4 x):QdB x=some (srcS x):=by
 have hv:=h.version;have v0:∀v∈[AnyV.int x.Version],VOk v:=by simp only[Zo,ZG,ZS,forall_eq];exact Qb2 (by omega)
 have l0:=QgZ (w:=[115,99,104,101,109,97]) (by decide) v0;simp only[Zh,Zi] at l0;have lk:=Qg0 (l:=x.Xa) (g:=QfH) (B:=50000) λk hk=>QkM (h.kind k hk);have ll:=Qg0 (l:=x.Xd) (g:=Qgz) (B:=20000) λk hk=>Qja (h.life k hk);have nk:=h.kinds;have nl:=h.lives;have nr:=h.rules;unfold QdB;rw[Qj8 (by decide) (by decide) (by simp) v0];simp only[Za];rw[QfV (by rw[Zi];omega)];simp only[Za,ZV];rw[Qef x.Xa QfH 50000 (λk hk=>QkM (h.kind k hk)) (QeW [115,99,104,101,109,97] [.int x.Version]) (λk hk acc hacc=>?_) (λacc=>Zc (by simp))]
 ·simp only[Za];rw[Qef x.Xd Qgz 20000 (λk hk=>Qja (h.life k hk)) (QeW [115,99,104,101,109,97] [.int x.Version]++x.Xa.flatMap QfH) (λk hk acc hacc=>?_) (λacc=>Zc (by simp))]
  ·simp only[Za];rw[Qef x.Xc QiN 1000 (λk hk=>QkN (h.rule k hk)) (QeW [115,99,104,101,109,97] [.int x.Version]++x.Xa.flatMap QfH++x.Xd.flatMap Qgz) (λk hk acc hacc=>?_) (λacc=>Zc (by simp))]
   ·simp only[Za];have e:QfT (srcS x)=some (srcS x):=Zc λh=>by
     have:=ZQ length h;simp only[srcS,QeW,Zd,Zh,Zi] at this;omega
    show (QfT (srcS x)).bind _=_;rw[e];rfl
   ·have hr:=h.rule _ (Zl hk);have hrl:=QkN hr;rw[Zb (by simpa using hk)];dsimp only;rw[QY hk];simp only[Za];rw[QnF,QnF];simp only[Za];show (QaB [114,117,108,101] (QfO x.Xc[k])).bind _=_;rw[Qj8 (by decide) (by decide) (by simp[QfO]) (Qvi hr)];simp only[Za];rw[Zd,Zd] at hacc;rw[QfV (by show acc.length+(QiN x.Xc[k]).length<=_;omega),QH hk (by omega)];rfl
  ·have hl:=h.life _ (Zl hk);obtain⟨w1,w2,w3,w4⟩:=Qvh hl;have hll:=Qja hl;rw[Zb (by simpa using hk)];dsimp only;rw[QY hk];simp only[Za];have hst:∀n,n<=x.Xd[k].Xe.length->([AnyV.str x.Xd[k].Xj,.int (x.Xd[k].Xe.length:Int)]++(x.Xd[k].Xe.take n).map AnyV.str).length<=100:=λn hn=>by
    simp only[Zd,Zh,Zi,Zy,ZE];omega
   refine Qkl x.Xd[k].Xe.length (λn=>((n:Int),[AnyV.str x.Xd[k].Xj,.int (x.Xd[k].Xe.length:Int)]++(x.Xd[k].Xe.take n).map AnyV.str)) _ (by simp) (λn hn=>?_) (Zc (by simp)) ?_
   ·rw[Zb (by simpa using hn)];dsimp only;rw[QY hn];simp only[Za];rw[Qb4 (by have:=hst n (by omega);rw[length_singleton];omega),QH hn (by omega),Zn hn,Yc,<-Zu];rfl
   ·dsimp only;rw[Zt (Zs _),Qj8 (by decide) (by decide) (by have:=hst _ (Zs _);rw[Zt (Zs _)] at this;omega) w1];simp only[Za];have l1:=QgZ (w:=[108,105,102,101]) (by decide) w1;simp only[Zd,Zh,Zi,Zy] at l1;rw[Zd] at hacc;rw[QfV (by omega)];simp only[Za];rw[Qef x.Xd[k].Xg Qh3 300 (λm hm=>Qi9 (w4 m hm)) _ (λq hq acc2 hacc2=>?_) (λacc=>Zc (by simp))]
    ·simp only[Za];rw[QH hk (by omega)];simp[Qgz]
    ·have hm:=w4 _ (Zl hq);have hml:=Qi9 hm;rw[Zb (by simpa using hq)];dsimp only;rw[QY hq];simp only[Za];rw[Qj8 (by decide) (by decide) (by simp) hm];simp only[Za];rw[Zd] at hacc2;rw[QfV (by show acc2.length+(Qh3 x.Xd[k].Xg[q]).length<=_;omega),QH hq (by omega)];rfl
 ·have hk':=h.kind _ (Zl hk);obtain⟨w1,w2,w3⟩:=Qdj hk';have l1:=QgZ (w:=[107,105,110,100]) (by decide) w1;simp only[Zh,Zi] at l1;rw[Zb (by simpa using hk)];dsimp only;rw[QY hk];simp only[Za];rw[Qj8 (by decide) (by decide) (by simp) w1];simp only[Za];rw[QfV (by omega)];simp only[Za];rw[Qef x.Xa[k].Xb Qfe 4000 (λf hf=>QhL (Qjr (w3 f hf))) _ (λq hq acc2 hacc2=>?_) (λacc=>Zc (by simp))]
  ·simp only[Za];rw[QH hk (by omega)];simp[QfH]
  ·have hf:=Qjr (w3 _ (Zl hq));have hfl:=QhL hf;rw[Zb (by simpa using hq)];dsimp only;rw[QY hq];simp only[Za];rw[QwR hf];simp only[Za];rw[Zd] at hacc2;rw[QfV (by omega),QH hq (by omega)];rfl
def Qgt (x:Qe):Int:=if QhE x=true then (if (srcS x).length>8192 then 4 else 0) else 1
def Fine (x:Qe):Prop:=(x.Xa.length<=1000000/\∀k∈x.Xa,QmR k.Xb)/\(x.Xd.length<=1000000/\∀l∈x.Xd,l.Xe.length<=1000000/\l.Xg.length<=1000000)/\x.Xc.length<=1000000
def Sz.fine {x:Qe} (h:Sz x):Fine x:=by
 obtain⟨⟨a1,a2⟩,⟨b1,b2⟩,c,_⟩:=h;refine⟨⟨by omega,λk hk=>⟨by have:=(a2 k hk).1;omega,λf hf=>?_⟩⟩,⟨by omega,λl hl=>?_⟩,by omega⟩
 ·have:=(a2 k hk).2.1 f hf;exact⟨by have:=this.1;omega,by have:=this.2.1;omega⟩
 ·have:=b2 l hl;exact⟨by omega,by omega⟩
def QwS {x:Qe} (h:Fine x):Qec x=some (Qgt x):=by
 obtain⟨⟨a1,a2⟩,⟨b1,b2⟩,c⟩:=h;unfold Qec;rw[Qz0 (p:=Qfc) a1 (λk hk=>Qvc (a2 k hk)),Qz1 (p:=QfU) b1 (λl hl=>Qvd (b2 l hl).1 (b2 l hl).2),Qz2 (p:=Qfd) c (λr _=>Qve r)];show (some (inW x.Version 0 1048576)).bind _=_;simp only[Za];have n1:∀(n:Nat) (m:Int),decide ((n:Int)>m)=!decide ((n:Int)<=m):=λn m=>by
  by_cases h:(n:Int)<=m
  ·rw[decide_eq_true h,decide_eq_false (by omega)];rfl
  ·rw[decide_eq_false h,decide_eq_true (by omega)];rfl
 rw[n1,n1,n1];unfold Qgt
 cases hv:QhE x with
 | true=>
  have hs:=Qvj (QkC hv);simp only[QhE,Zk] at hv;obtain⟨⟨⟨⟨⟨⟨h1,h2⟩,h3⟩,h4⟩,h5⟩,h6⟩,h7⟩:=hv;simp only[h1,h2,h3,h4,h5,h6,h7,Sim.opt,Bool.not_true,Bool.or_self,beq_self_eq_true,if_true,Za];rw[Zc (by decide),hs];simp only[Za];by_cases hl:(srcS x).length>8192
  ·rw[Zb (by simp;omega),Zb hl]
  ·rw[Zc (by simp;omega),Zc hl]
 | false=>
  rw[Zc (by decide)];unfold QhE at hv
  cases h1:inW x.Version 0 1048576<;>cases h2:decide ((x.Xa.length:Int)<=6)<;>cases h3:decide ((x.Xd.length:Int)<=6)<;>cases h4:decide ((x.Xc.length:Int)<=16)<;>
   cases h5:x.Xa.all Qfc<;>cases h6:x.Xd.all QfU<;>cases h7:x.Xc.all Qfd<;>first | rfl | (rw[h1,h2,h3,h4,h5,h6,h7] at hv;cases hv)
def Qbi:List QK->Int
 | []=>0
 | f::r=>if f.is=true then f.code else Qbi r
def QhO {l:List QK} (hl:l.length<=1000):Qat l=some (Qbi l):=by
 have key:Ok (Qat l) (λr=>r=Qbi l):=by
  unfold Qat;refine Ok.bind (P:=λe:Unit⊕Int=>(match e with | .inl _=>0 | .inr r=>r)=Qbi l) (Ok.loop (λm s=>0<=s/\s+m=l.length/\Qbi (l.drop s.toNat)=Qbi l) l.length ⟨ZM _,by omega,by simp⟩ λm s hs=>?_) λe he=>by cases e<;>exact Ok.mk he
  obtain⟨h1,h2,h3⟩:=hs;obtain⟨k,rfl⟩:=ZK h1;rw[Zr] at h3;refine Ok.ite (λhk=>?_) (λhk=>?_)
  ·have hk':k<l.length:=by simpa using hk
   rw[QY hk'];simp only[Za];rw[Yh hk',Qbi] at h3;refine Ok.ite (λhi=>Ok.mk ?_) (λhi=>Ok.mk ⟨m - 1,by omega,?_⟩)
   ·rw[Zb hi] at h3;exact h3
   ·rw[Zc (by rw[hi];decide)] at h3;rw[QH hk' (by omega)];exact⟨by omega,by omega,by rw[Zr];exact h3⟩
  ·have hk':¬k<l.length:=by simpa using hk
   rw[drop_of_length_le (by omega)] at h3;exact Ok.mk h3
 obtain⟨r,hr,rfl⟩:=key;exact hr
def topS (x:Qe) (k j:Int) (f:Qb):Qb×Bool:=
 if upIx x k j<0 then (QcZ,false)
 else match idx x.Xa (upIx x k j) with
  | none=>(QcZ,false)
  | some q=>match field? x (upIx x k j) (Qaf q f.Of) with | some g=>(g,true) | none=>(QcZ,false)
def Qvk (g:Qb):Bool:=((((g.Xi==2)||(g.Xi==3))||(g.Xi==4))||(g.Xi==5))||(g.Xi==8)
def Ql0 (x:Qe) (q:Qf) (k j:Int) (f:Qb):Int:=
 if f.Xi=0 then Qbi [⟨decide (j>0),13⟩]
 else if f.Xi=1 then Qbi [⟨decide (upIx x k j<0),12⟩]
 else if f.Xi=4 then Qbi [⟨(f.Of !=[])&&(((decide (Qaf q f.Of<0))||(decide (Qaf q f.Of>=j)))||((match field? x k (Qaf q f.Of) with | some g=>(g,true) | none=>(QcZ,false)).1.Xi !=4)),12⟩]
 else if f.Xi=5 then Qbi [⟨!(x.Xd.any λl=>l.Xj==f.Of),12⟩]
 else if f.Xi=6 then Qbi [⟨decide ((QkB x k f).1<0),12⟩,⟨((QkB x k f).2.length:Int) !=1,11⟩]
 else if f.Xi=7 then Qbi [⟨decide (upIx x k j<0),12⟩,⟨((!(topS x k j f).2)||((topS x k j f).1.Xi !=6))||(QW x (topS x k j f).1.Of !=k),13⟩]
 else if f.Xi=8 then Qbi [⟨decide (upIx x k j<0),12⟩,⟨(!(topS x k j f).2)||(!Qvk (topS x k j f).1),13⟩]
 else 0
def Qsk (x:Qe) (k j:Int) (hk:0<=k):upIx x k j<k/\-1<=upIx x k j:=by
 have hr:∀g,Qi7 x k g<k/\-1<=Qi7 x k g:=λg=>by have:=Qjq x g.Of;unfold Qi7;split<;>omega
 unfold upIx
 cases field? x k j with
 | none=>exact⟨by dsimp only;omega,by dsimp only;omega⟩
 | some f=>
  dsimp only;split
  ·split
   ·omega
   ·split
    ·split
     ·split
      ·exact hr _
      ·omega
     ·omega
    ·omega
  ·split
   ·exact hr _
   ·omega
def Qvl {x:Qe} {k j:Int} {f:Qb} (hx:Few x) (hk:0<=k) (hkl:k<x.Xa.length):Qcc ⟨x,k,j,f⟩=some (topS x k j f):=by
 unfold Qcc topS;rw[Qkm hx];simp only[Za];by_cases hu:upIx x k j<0
 ·rw[Zb (by simpa using hu),Zb hu];rfl
 ·rw[Zc (by simpa using hu),Zc hu];have h1:=Qsk x k j hk;obtain⟨q,hq,hqm⟩:=QcR (l:=x.Xa) (i:=upIx x k j) (by omega) (by omega);rw[hq];simp only[Za];rw[QcA (by have:=hx.2 q hqm;omega)];simp only[Za];rw[QlX];cases field? x (upIx x k j) (Qaf q f.Of)<;>rfl
def Qo0 {x:Qe} {k j:Int} {f:Qb} (hx:Few x):QbF ⟨x,k,j,f⟩=some (decide (upIx x k j<0)):=by unfold QbF;rw[Qkm hx];rfl
def QwT {x:Qe} {k j:Int} {q:Qf} {f:Qb} (hx:Few x) (hl:x.Xd.length<=1000) (hq:idx x.Xa k=some q) (hf:field? x k j=some f) (h:(QbA f.Xi).isSome=true):QlA (QbY.mk (QbA f.Xi)).check ⟨x,k,j,f⟩=some (Ql0 x q k j f):=by
 obtain⟨q',hk,hj,hq',hqf,hqm,hkl,hjl⟩:=QcK hf;rw[hq] at hq';cases hq';have one:∀a,Qat [a]=some (Qbi [a]):=λa=>QhO (by simp);have two:∀a b,Qat [a,b]=some (Qbi [a,b]):=λa b=>QhO (by simp);unfold Ql0;dsimp only;by_cases c0:f.Xi=0
 ·rw[Zb c0,c0];show Qb7 _=_;unfold Qb7;rw[one];rfl
 rw[Zc c0];by_cases c1:f.Xi=1
 ·rw[Zb c1,c1];show Qb8 _=_;unfold Qb8;rw[Qo0 hx];simp only[Za];rw[one];rfl
 rw[Zc c1];by_cases c4:f.Xi=4
 ·rw[Zb c4,c4];show Qb9 _=_;unfold Qb9;dsimp only;rw[hq];simp only[Za];rw[QcA (by have:=hx.2 q hqm;omega)];simp only[Za];rw[QlX];simp only[Za];rw[one];rfl
 rw[Zc c4];by_cases c5:f.Xi=5
 ·rw[Zb c5,c5];show Qca _=_;unfold Qca;dsimp only;rw[Qkn (s:=x.Xd) (f:=λx0=>QcW x0 ⟨x,k,j,f⟩) (p:=λl=>l.Xj==f.Of) (by omega) (λl _=>rfl)];simp only[Za];rw[one];rfl
 rw[Zc c5];by_cases c6:f.Xi=6
 ·rw[Zb c6];show QlA (QbA f.Xi) _=_;rw[c6];show Qcb _=_;unfold Qcb;dsimp only;rw[Qu6 hx hk];simp only[Za];rw[two];rfl
 rw[Zc c6];by_cases c7:f.Xi=7
 ·rw[Zb c7];show QlA (QbA f.Xi) _=_;rw[c7];show Qcd _=_;unfold Qcd;rw[Qvl hx hk hkl,Qo0 hx];simp only[Za];rw[QdF (by have:=hx.1;omega)]
  cases hc:((!(topS x k j f).2)||((topS x k j f).1.Xi !=6)) with
  | true=>simp only[Sim.opt,Bool.true_or];show (Qat _).bind _=_;rw[two];rfl
  | false=>simp only[Sim.opt,beq_self_eq_true,if_true,Za];rw[two];rfl
 rw[Zc c7];by_cases c8:f.Xi=8
 ·rw[Zb c8];show QlA (QbA f.Xi) _=_;rw[c8];show Qce _=_;unfold Qce;rw[Qvl hx hk hkl,Qo0 hx];simp only[Za];rw[two];rfl
 rw[QbA,Zc c0,Zc c1,Zc c4,Zc c5,Zc c6,Zc c7,Zc c8] at h;cases h
def QwU {x:Qe} {k j:Int} {q:Qf} {f:Qb} (h:(QbA f.Xi).isSome=false):Ql0 x q k j f=0:=by
 unfold Ql0;by_cases c0:f.Xi=0
 ·rw[c0] at h;cases h
 by_cases c1:f.Xi=1
 ·rw[c1] at h;cases h
 by_cases c4:f.Xi=4
 ·rw[c4] at h;cases h
 by_cases c5:f.Xi=5
 ·rw[c5] at h;cases h
 by_cases c6:f.Xi=6
 ·rw[c6] at h;cases h
 by_cases c7:f.Xi=7
 ·rw[c7] at h;cases h
 by_cases c8:f.Xi=8
 ·rw[c8] at h;cases h
 rw[Zc c0,Zc c1,Zc c4,Zc c5,Zc c6,Zc c7,Zc c8]
def QjT (x:Qe) (i:Int) (q:Qf):Int:=Qbi [⟨decide (QW x q.Xj<i),7⟩,⟨((q.Xb.length:Int)==0)||((q.Xb.headD QcZ).Xi !=0),11⟩]
def Qz5 {x:Qe} {i:Int} {q:Qf} (hx:Few x) (hq:idx x.Xa i=some q):QeL x i=some (QjT x i q):=by
 unfold QeL QjT;rw[hq];simp only[Za];rw[QdF (by have:=hx.1;omega)];simp only[Za]
 cases hf:q.Xb with
 | nil=>show (Qat _).bind _=_;rw[QhO (by simp)];rfl
 | cons f fs=>
  have e:(((f::fs).length:Int)==0)=false:=by simp;omega
  rw[e];simp only[Sim.opt,beq_self_eq_true,if_true];rw[show idx (f::fs) (0:Int)=some f from rfl];simp only[Za];rw[QhO (by simp)];rfl
def QmS (x:Qe) (k:Int) (n:Str):Qb×Bool:=match idx x.Xa k with | none=>(QcZ,false) | some q=>match field? x k (Qaf q n) with | some g=>(g,true) | none=>(QcZ,false)
def Qdu (x:Qe) (k:Int) (n:Str):Bool:=!((n==[])||decide (k<0))&&!(QmS x k n).2
def Qdk (x:Qe) (k:Int) (n:Str):Bool:=!((n==[])||decide (k<0))&&(((QmS x k n).1.Xi !=2)&&((QmS x k n).1.Xi !=4))
def Ql1 (x:Qe) (i:Nat) (r:Qh):Int:=Qbi [⟨(x.Xc.take i).any λs=>s.Xj==r.Xj,7⟩,⟨(decide (QW x r.Xi<0)||Qdu x (QW x r.Xi) r.A)||Qdu x (QW x r.Xi) r.B,12⟩,⟨Qdk x (QW x r.Xi) r.A||Qdk x (QW x r.Xi) r.B,13⟩,⟨r.A==r.B,1⟩]
def Qpx {β:Type} {x:Qe} {k:Int} {n:Str} {a b:Bool} (hx:Few x) (hk:k<x.Xa.length) (g:Bool×Bool->β):
  (if ((n==([]:Str))||(decide (k<0)))=true then some (g (a,b)) else (idx x.Xa k).bind λt53=>(Qbr t53 n).bind λt56=>(QcI x k t56).bind λt57=>some (g ((a||(!t57.2)),(b||((t57.1.Xi !=2)&&(t57.1.Xi !=4))))))=some (g (a||Qdu x k n,b||Qdk x k n)):=by
 unfold Qdu Qdk
 cases hc:((n==([]:Str))||(decide (k<0))) with
 | true=>rw[Zb rfl];simp
 | false=>rw[Zc (by decide)];simp only[Bool.or_eq_false_iff,ZU] at hc;obtain⟨q,hq,hqm⟩:=QcR (l:=x.Xa) (i:=k) (by omega) hk;unfold QmS;rw[hq];simp only[Za];rw[QcA (by have:=hx.2 q hqm;omega)];simp only[Za];rw[QlX];cases field? x k (Qaf q n)<;>simp

/- What is valid is small. No condition. -/
import Derived.Test.YtjioihpegfgbpaaGreatDoorCvD
set_option linter.all false
open List
namespace Go.Proofs.YtjioihpegfgbpaaGreatDoor
open Go.Sim
structure Qvp (f:Qd):Prop where
  name:f.Xi.length<=12
  of:f.Of.length<=12
  up:f.Up.length<=12
  words:f.Words.length<=12/\∀w∈f.Words,w.length<=12
  weights:f.Xf.length<=12/\∀w∈f.Xf,I64 w
  kind:I64 f.Xh
  lo:I64 f.Lo
  hi:I64 f.Hi
theorem Qit {n a b:Int} (h:a<=n/\n<=b) (ha:-100000000<=a) (hb:b<=100000000):I64 n:=by unfold I64;omega
theorem Qhn:I64 0:=by unfold I64;omega
theorem QjR (n:Nat) (h:n<=8):I64 (n:Int):=by unfold I64;omega
theorem Qo4 {ws:List Str} {gs:List Int} (h:Qh5 ws gs=true):(ws.length<=12/\∀w∈ws,w.length<=12)/\(gs.length<=12/\∀w∈gs,I64 w):=by unfold Qh5 at h;simp only[Zh,Zs,Ye] at h;obtain⟨h1,⟨⟨h2,h3⟩,h4⟩,h5⟩:=h;have:=QbK h2;exact⟨⟨by omega,λw hw=>QaE (h5 w hw)⟩,by omega,λw hw=>Qit (QbK (h1 w hw)) (by decide) (by decide)⟩
theorem Qd6 {lo hi a b:Int} (h:Qdk lo hi a b=true) (ha:-100000000<=a) (hb:b<=100000000):I64 lo/\I64 hi:=by have:=Qev h;unfold I64;omega
theorem Qdq:(([]:List Str).length<=12/\∀w∈([]:List Str),w.length<=12)/\(([]:List Int).length<=12/\∀w∈([]:List Int),I64 w):=by simp
theorem Qsd {f:Qd} (h:Qa4 f=true):Qvp f:=by
  obtain⟨nm,of,up,kd,lo,hi,ws,gs⟩:=f;unfold Qa4 QgP at h;simp only[Zh,Ye,ZA] at h;obtain⟨⟨hn,⟨⟨⟨⟨⟨⟨s1,s2⟩,s3⟩,s4⟩,s5⟩,s6⟩,s7⟩,s8⟩,hp⟩:=h;have hn':=QaE hn;have hk:kd=0\/kd=1\/kd=2\/kd=3\/kd=4\/kd=5\/kd=6\/kd=7\/kd=8:=by
    unfold Qf9 at hp;by_cases k0:kd=0
    · exact .inl k0
    by_cases k1:kd=1
    · exact .inr (.inl k1)
    by_cases k2:kd=2
    · omega
    by_cases k3:kd=3
    · omega
    by_cases k4:kd=4
    · omega
    by_cases k5:kd=5
    · omega
    by_cases k6:kd=6
    · omega
    by_cases k7:kd=7
    · omega
    by_cases k8:kd=8
    · omega
    simp[k0,k1,k2,k3,k4,k5,k6,k7,k8] at hp
  have nil:([]:Str).length<=12:=by decide
  rcases hk with rfl | rfl | rfl | rfl | rfl | rfl | rfl | rfl | rfl
  · obtain rfl:of=[]:=s2;obtain rfl:up=[]:=s3;obtain rfl:hi=0:=s6;obtain rfl:ws=[]:=s7;obtain rfl:gs=[]:=s8;have hp:inW lo (-1048576) 1048576=true:=hp;exact⟨hn',nil,nil,Qdq.1,Qdq.2,QjR 0 (by decide),Qit (QbK hp) (by decide) (by decide),Qhn⟩
  · obtain rfl:up=[]:=s3;obtain rfl:ws=[]:=s7;obtain rfl:gs=[]:=s8;have hp:(Q7 of&&Qdk lo hi 0 65536)=true:=hp;rw[Zh] at hp;exact⟨hn',QaE hp.1,nil,Qdq.1,Qdq.2,QjR 1 (by decide),(Qd6 hp.2 (by decide) (by decide)).1,(Qd6 hp.2 (by decide) (by decide)).2⟩
  · obtain rfl:of=[]:=s2;obtain rfl:up=[]:=s3;obtain rfl:ws=[]:=s7;obtain rfl:gs=[]:=s8;have hp:Qdk lo hi (-1048576) 1048576=true:=hp;exact⟨hn',nil,nil,Qdq.1,Qdq.2,QjR 2 (by decide),(Qd6 hp (by decide) (by decide)).1,(Qd6 hp (by decide) (by decide)).2⟩
  · obtain rfl:of=[]:=s2;obtain rfl:up=[]:=s3;obtain rfl:lo=0:=s5;obtain rfl:hi=0:=s6;have hp:Qh5 ws gs=true:=hp;exact⟨hn',nil,nil,(Qo4 hp).1,(Qo4 hp).2,QjR 3 (by decide),Qhn,Qhn⟩
  · obtain rfl:up=[]:=s3;obtain rfl:ws=[]:=s7;obtain rfl:gs=[]:=s8;have hp:((of==[])||Q7 of)=true/\Qdk lo hi (-1048576) 1048576=true:=(Zh _ _).mp hp;refine⟨hn',?_,nil,Qdq.1,Qdq.2,QjR 4 (by decide),(Qd6 hp.2 (by decide) (by decide)).1,(Qd6 hp.2 (by decide) (by decide)).2⟩;rcases (ZX _ _).mp hp.1 with h | h
    · rw[Ye.1 h];exact nil
    · exact QaE h
  · obtain rfl:up=[]:=s3;obtain rfl:ws=[]:=s7;obtain rfl:gs=[]:=s8;have hp:Q7 of=true/\Qdk lo hi 0 32=true:=(Zh _ _).mp hp;exact⟨hn',QaE hp.1,nil,Qdq.1,Qdq.2,QjR 5 (by decide),(Qd6 hp.2 (by decide) (by decide)).1,(Qd6 hp.2 (by decide) (by decide)).2⟩
  · obtain rfl:up=[]:=s3;obtain rfl:lo=0:=s5;obtain rfl:hi=0:=s6;obtain rfl:ws=[]:=s7;obtain rfl:gs=[]:=s8;have hp:Q7 of=true:=hp;exact⟨hn',QaE hp,nil,Qdq.1,Qdq.2,QjR 6 (by decide),Qhn,Qhn⟩
  · obtain rfl:ws=[]:=s7;obtain rfl:gs=[]:=s8;have hp:(Q7 of&&Q7 up)=true/\Qdk lo hi 0 1048576=true:=(Zh _ _).mp hp;have h1:=(Zh _ _).mp hp.1;exact⟨hn',QaE h1.1,QaE h1.2,Qdq.1,Qdq.2,QjR 7 (by decide),(Qd6 hp.2 (by decide) (by decide)).1,(Qd6 hp.2 (by decide) (by decide)).2⟩
  · obtain rfl:lo=0:=s5;obtain rfl:hi=0:=s6;obtain rfl:ws=[]:=s7;obtain rfl:gs=[]:=s8;have h1:Q7 of=true/\Q7 up=true:=(Zh _ _).mp hp;exact⟨hn',QaE h1.1,QaE h1.2,Qdq.1,Qdq.2,QjR 8 (by decide),Qhn,Qhn⟩
structure KindN (k:Qh):Prop where
  name:k.Xi.length<=12
  lo:I64 k.Lo
  hi:I64 k.Hi
  fields:k.Xb.length<=10/\∀f∈k.Xb,Qvp f
structure LifeN (l:Qr):Prop where
  name:l.Xi.length<=12
  states:l.Xe.length<=12/\∀s∈l.Xe,s.length<=12
  moves:l.Xg.length<=32/\∀m∈l.Xg,I64 m.a0/\I64 m.a1
structure RuleN (r:Qm):Prop where
  name:r.Xi.length<=12
  kind:r.Xh.length<=12
  a:r.A.length<=12
  b:r.B.length<=12
  n:I64 r.N
structure Qko (x:Qa):Prop where
  version:I64 x.Version
  kinds:x.Xa.length<=6/\∀k∈x.Xa,KindN k
  lives:x.Xd.length<=6/\∀l∈x.Xd,LifeN l
  rules:x.Xc.length<=16/\∀r∈x.Xc,RuleN r
theorem QsF {s:Str} (h:((s==[])||Q7 s)=true):s.length<=12:=by
  rcases (ZX _ _).mp h with h | h
  · rw[Ye.1 h];decide
  · exact QaE h
theorem Qk8 {x:Qa} (h:QfU x=0):Qko x:=by
  have hv:Qhl x=true:=by
    unfold QfU at h;split at h
    · assumption
    · cases h
  unfold Qhl at hv;simp only[Zh,ZA,Zs] at hv;obtain⟨⟨⟨⟨⟨⟨h1,h2⟩,h3⟩,h4⟩,h5⟩,h6⟩,h7⟩:=hv;refine⟨Qit (QbK h1) (by decide) (by decide),⟨by omega,λk hk=>?_⟩,⟨by omega,λl hl=>?_⟩,by omega,λr hr=>?_⟩
  · have hK:=h5 k hk;unfold Qfz at hK;simp only[Zh,ZA,Zs] at hK;obtain⟨⟨⟨k1,k2⟩,k3⟩,k4⟩:=hK;exact⟨QaE k1,(Qd6 k2 (by decide) (by decide)).1,(Qd6 k2 (by decide) (by decide)).2,by omega,λf hf=>Qsd (k4 f hf)⟩
  · have hL:=h6 l hl;unfold QfA at hL;simp only[Zh,ZA,Zs] at hL;obtain⟨⟨⟨⟨k1,k2⟩,k3⟩,k4⟩,k5⟩:=hL;have:=QbK k2;refine⟨QaE k1,⟨by omega,λs hs=>QaE (k3 s hs)⟩,by omega,λm hm=>?_⟩;have hM:=k5 m hm;unfold QiF at hM;rw[Zh] at hM;exact⟨Qit (QbK hM.1) (by decide) (by omega),Qit (QbK hM.2) (by decide) (by omega)⟩
  · have hR:=h7 r hr;unfold QfB at hR;simp only[Zh] at hR;obtain⟨⟨⟨⟨⟨k1,k2⟩,k3⟩,k4⟩,k5⟩,k6⟩:=hR;exact⟨QaE k1,QaE k2,QsF k3,QsF k4,Qit (QbK k6) (by decide) (by decide)⟩
theorem Qko.mid {x:Qa} (h:Qko x):Mid 500 x:=⟨⟨by have:=h.kinds.1;omega,λk hk=>⟨by have:=(h.kinds.2 k hk).fields.1;omega,λf hf=>⟨by have:=((h.kinds.2 k hk).fields.2 f hf).words.1;omega,by have:=((h.kinds.2 k hk).fields.2 f hf).weights.1;omega⟩⟩⟩,⟨by have:=h.lives.1;omega,λl hl=>⟨by have:=(h.lives.2 l hl).states.1;omega,by have:=(h.lives.2 l hl).moves.1;omega⟩⟩,by have:=h.rules.1;omega⟩

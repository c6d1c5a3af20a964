/- What package schema tells of fields, kinds, lives and rules, as plain functions. No condition. -/
import Derived.Test.YtcdccjagknlmpaaGreatDoorCtA
namespace Go.Proofs.YtcdccjagknlmpaaGreatDoor
open Go.Sim

theorem QtY (l:List Int) {k:Nat} (h:k<l.length):(l.take (k+1)).sum=(l.take k).sum+l[k]:=by
  rw[List.take_succ_eq_append_getElem h,List.sum_append];simp
/-- Words and weights are right. -/
def Qkr (ws:List Str) (gs:List Int):Bool:=(gs.all fun g=>inW g 0 1048576)&&(((inW (ws.length:Int) 1 12&&((ws.length:Int)==(gs.length:Int)))&&decide (gs.sum>0))&&ws.all Qad)
theorem Qqs {ws:List Str} {gs:List Int} (hw:ws.length≤1000000) (hg:gs.length≤1000000):Qcr ws gs=some (Qkr ws gs):=by
  have key:Ok (Qcr ws gs) (fun r=>r=Qkr ws gs):=by
    unfold Qcr
    refine Ok.bind (P:=fun e:Int⊕Bool=>match e with | .inl s=>(gs.all fun g=>inW g 0 1048576)=true∧s=gs.sum | .inr p=>p=false∧(gs.all fun g=>inW g 0 1048576)=false)
      (Ok.loop (fun m s=>0≤s.1∧s.1+m=gs.length∧((gs.take s.1.toNat).all fun g=>inW g 0 1048576)=true∧s.2=(gs.take s.1.toNat).sum∧0≤s.2∧s.2≤s.1 * 1048576) gs.length ⟨Int.le_refl _,by dsimp only;omega,by simp,by simp,by simp,by simp⟩ fun m s hs=>?_) fun e he=>?_
    · obtain⟨i,t⟩:=s
      obtain⟨h1,h2,h3,h4,h5,h6⟩:=hs
      dsimp only at h1 h2 h3 h4 h5 h6
      obtain⟨k,rfl⟩:=Int.eq_ofNat_of_zero_le h1
      simp only[Int.toNat_natCast] at h3 h4
      refine Ok.ite (fun hk=>?_) (fun hk=>?_)
      · have hk':k<gs.length:=by simpa using hk
        dsimp only
        rw[Qaa hk']
        simp only[Option.bind_some]
        show Ok ((some (inW gs[k] 0 1048576)).bind _) _
        simp only[Option.bind_some]
        refine Ok.ite (fun hn=>Ok.mk ⟨rfl,?_⟩) (fun hy=>Ok.mk ⟨m - 1,by omega,?_⟩)
        · rw[List.all_eq_false]
          exact⟨_,List.getElem_mem hk',by simpa using hn⟩
        · have hy':inW gs[k] 0 1048576=true:=by simpa using hy
          have hb:=Qdn hy'
          dsimp only
          rw[Q1 hk' (by omega),w64 (n:=t+gs[k]) (by omega) (by omega)]
          refine⟨by omega,by omega,?_,?_,by omega,by omega⟩
          · rw[Int.toNat_natCast,List.take_succ_eq_append_getElem hk',List.all_append,h3];simp[hy']
          · rw[Int.toNat_natCast,QtY gs hk',h4]
      · have hk':¬k<gs.length:=by simpa using hk
        rw[List.take_of_length_le (by omega)] at h3 h4
        exact Ok.mk ⟨h3,h4⟩
    · cases e with
      | inr p=>obtain⟨rfl,hp⟩:=he;refine Ok.mk ?_;unfold Qkr;rw[hp];rfl
      | inl s=>
        obtain⟨hp,rfl⟩:=he
        dsimp only
        show Ok ((some (inW (ws.length:Int) 1 12)).bind _) _
        simp only[Option.bind_some]
        rw[Qnw (p:=Qad) hw (fun x _=>Qf9 x)]
        unfold Qkr
        rw[hp,Bool.true_and]
        cases (inW (ws.length:Int) 1 12&&((ws.length:Int)==(gs.length:Int)))&&decide (gs.sum>0) with
        | false=>exact Ok.mk rfl
        | true=>exact Ok.mk rfl
  obtain⟨r,hr,rfl⟩:=key
  exact hr

/-- A field with what its kind uses alone. -/
def QhO (f:Qb):Qb:=
  if f.Kind=0 then ⟨f.Name,[],[],f.Kind,f.Lo,0,[],[]⟩
  else if f.Kind=1∨f.Kind=4∨f.Kind=5 then ⟨f.Name,f.Of,[],f.Kind,f.Lo,f.Hi,[],[]⟩
  else if f.Kind=2 then ⟨f.Name,[],[],f.Kind,f.Lo,f.Hi,[],[]⟩
  else if f.Kind=3 then ⟨f.Name,[],[],f.Kind,0,0,f.Words,f.Weights⟩
  else if f.Kind=6 then ⟨f.Name,f.Of,[],f.Kind,0,0,[],[]⟩
  else if f.Kind=7 then ⟨f.Name,f.Of,f.Up,f.Kind,f.Lo,f.Hi,[],[]⟩
  else if f.Kind=8 then ⟨f.Name,f.Of,f.Up,f.Kind,0,0,[],[]⟩
  else ⟨f.Name,[],[],f.Kind,0,0,[],[]⟩
theorem Qw8 (f:Qb):QeL f=some (QhO f):=by
  obtain⟨n,o,u,k,lo,hi,w,g⟩:=f
  unfold QeL QhO
  by_cases h0:k=0
  · subst h0;rfl
  by_cases h1:k=1
  · subst h1;rfl
  by_cases h4:k=4
  · subst h4;rfl
  by_cases h5:k=5
  · subst h5;rfl
  by_cases h2:k=2
  · subst h2;rfl
  by_cases h3:k=3
  · subst h3;rfl
  by_cases h6:k=6
  · subst h6;rfl
  by_cases h7:k=7
  · subst h7;rfl
  by_cases h8:k=8
  · subst h8;rfl
  simp[h0,h1,h2,h3,h4,h5,h6,h7,h8]
/-- Two fields are equal. -/
def QhP (a b:Qb):Bool:=(((((((a.Name==b.Name)&&(a.Of==b.Of))&&(a.Up==b.Up))&&(a.Kind==b.Kind))&&(a.Lo==b.Lo))&&(a.Hi==b.Hi))&&decide (a.Words=b.Words))&&decide (a.Weights=b.Weights)
theorem Qrz {a b:Qb} (h1:a.Words.length≤1000000) (h2:a.Weights.length≤1000000):QcB a b=some (QhP a b):=by
  unfold QcB QhP
  rw[Qu3 h1,eqInt h2]
  cases ((((((a.Name==b.Name)&&(a.Of==b.Of))&&(a.Up==b.Up))&&(a.Kind==b.Kind))&&(a.Lo==b.Lo))&&(a.Hi==b.Hi)) with
  | false=>rfl
  | true=>
    simp only[Sim.opt,Bool.true_and,beq_self_eq_true,if_true,Option.bind_some]
    cases decide (a.Words=b.Words)<;>rfl
def Qgk (f:Qb):Bool:=
  if f.Kind=0 then inW f.Lo (-1048576) 1048576
  else if f.Kind=1 then Qad f.Of&&Qfx f.Lo f.Hi 0 65536
  else if f.Kind=2 then Qfx f.Lo f.Hi (-1048576) 1048576
  else if f.Kind=3 then Qkr f.Words f.Weights
  else if f.Kind=4 then ((f.Of==[])||Qad f.Of)&&Qfx f.Lo f.Hi (-1048576) 1048576
  else if f.Kind=5 then Qad f.Of&&Qfx f.Lo f.Hi 0 32
  else if f.Kind=6 then Qad f.Of
  else if f.Kind=7 then (Qad f.Of&&Qad f.Up)&&Qfx f.Lo f.Hi 0 1048576
  else if f.Kind=8 then Qad f.Of&&Qad f.Up
  else false
/-- A field is valid. -/
def QaX (f:Qb):Bool:=(Qad f.Name&&QhP f (QhO f))&&Qgk f
theorem QsO {f:Qb} (h1:f.Words.length≤1000000) (h2:f.Weights.length≤1000000):Qdh f=some (QaX f):=by
  unfold Qdh QaX
  rw[Qf9,Qw8]
  simp only[Option.bind_some]
  cases Qad f.Name with
  | false=>rfl
  | true=>
    simp only[Sim.opt,Bool.not_true,beq_self_eq_true,if_true,Option.bind_some]
    rw[Qrz h1 h2]
    simp only[Option.bind_some]
    cases QhP f (QhO f) with
    | false=>rfl
    | true=>
      simp only[Qf9,Qqs h1 h2,Bool.true_and,Bool.not_true,Bool.or_self]
      rw[if_neg (by decide)]
      unfold Qgk
      by_cases c0:f.Kind=0
      · rw[if_pos (by simp[c0]),if_pos c0];rfl
      rw[if_neg (by simpa using c0),if_neg c0]
      by_cases c1:f.Kind=1
      · rw[if_pos (by simp[c1]),if_pos c1];cases Qad f.Of<;>rfl
      rw[if_neg (by simpa using c1),if_neg c1]
      by_cases c2:f.Kind=2
      · rw[if_pos (by simp[c2]),if_pos c2];rfl
      rw[if_neg (by simpa using c2),if_neg c2]
      by_cases c3:f.Kind=3
      · rw[if_pos (by simp[c3]),if_pos c3];rfl
      rw[if_neg (by simpa using c3),if_neg c3]
      by_cases c4:f.Kind=4
      · rw[if_pos (by simp[c4]),if_pos c4];cases (f.Of==[])<;>cases Qad f.Of<;>rfl
      rw[if_neg (by simpa using c4),if_neg c4]
      by_cases c5:f.Kind=5
      · rw[if_pos (by simp[c5]),if_pos c5];cases Qad f.Of<;>rfl
      rw[if_neg (by simpa using c5),if_neg c5]
      by_cases c6:f.Kind=6
      · rw[if_pos (by simp[c6]),if_pos c6];rfl
      rw[if_neg (by simpa using c6),if_neg c6]
      by_cases c7:f.Kind=7
      · rw[if_pos (by simp[c7]),if_pos c7];cases Qad f.Of<;>cases Qad f.Up<;>rfl
      rw[if_neg (by simpa using c7),if_neg c7]
      by_cases c8:f.Kind=8
      · rw[if_pos (by simp[c8]),if_pos c8];cases Qad f.Of<;>rfl
      rw[if_neg (by simpa using c8),if_neg c8]

/-- A kind, a life, a rule is valid. -/
def Qd7 (k:Qj):Bool:=((Qad k.Name&&Qfx k.Lo k.Hi 0 65536)&&decide ((k.Fields.length:Int)≤10))&&k.Fields.all QaX
def Qnx (l:List Qb):Prop:=l.length≤1000000∧∀f∈l,f.Words.length≤1000000∧f.Weights.length≤1000000
theorem QtZ {k:Qj} (h:Qnx k.Fields):QdC k=some (Qd7 k):=by
  unfold QdC Qd7
  rw[Qf9,Qu2 (p:=QaX) h.1 (fun f hf=>QsO (h.2 f hf).1 (h.2 f hf).2)]
  simp only[Option.bind_some]
  cases Qad k.Name with
  | false=>rfl
  | true=>
    show (opt true (some (Qfx k.Lo k.Hi 0 65536)) default).bind _=_
    simp only[Sim.opt,Bool.true_and,if_true,Option.bind_some]
    cases Qfx k.Lo k.Hi 0 65536 with
    | false=>rfl
    | true=>
      cases hd:decide ((k.Fields.length:Int)≤10) with
      | false=>rfl
      | true=>rfl
def QjO (n:Int) (m:QU):Bool:=inW m.a0 0 (n - 1)&&inW m.a1 0 (n - 1)
def Qgl (x:Qn):Bool:=(((Qad x.Name&&inW (x.States.length:Int) 1 12)&&x.States.all Qad)&&decide ((x.Moves.length:Int)≤32))&&x.Moves.all (QjO (x.States.length:Int))
theorem Qt0 {x:Qn} (h1:x.States.length≤1000000) (h2:x.Moves.length≤1000000):QdD x=some (Qgl x):=by
  have hm:∀m∈x.Moves,Qc2 m (x.States.length:Int)=some (QjO (x.States.length:Int) m):=fun m _=>by
    unfold Qc2 QjO
    rw[w64 (by omega) (by omega)]
    show (some (inW m.a0 0 ((x.States.length:Int) - 1))).bind _=_
    simp only[Option.bind_some]
    cases inW m.a0 0 ((x.States.length:Int) - 1)<;>rfl
  unfold QdD Qgl
  rw[Qf9,Qnw (p:=Qad) h1 (fun s _=>Qf9 s),QtX (p:=QjO (x.States.length:Int)) h2 hm]
  simp only[Option.bind_some]
  cases Qad x.Name with
  | false=>rfl
  | true=>
    show (opt true (some (inW (x.States.length:Int) 1 12)) default).bind _=_
    simp only[Sim.opt,Bool.true_and,if_true,Option.bind_some]
    cases inW (x.States.length:Int) 1 12 with
    | false=>rfl
    | true=>
      simp only[Bool.true_and,beq_self_eq_true,if_true,Option.bind_some]
      cases x.States.all Qad with
      | false=>rfl
      | true=>cases decide ((x.Moves.length:Int)≤32)<;>rfl
def Qgm (r:Qm):Bool:=((((Qad r.Name&&Qad r.Kind)&&((r.A==[])||Qad r.A))&&((r.B==[])||Qad r.B))&&(r.A++r.B !=[]))&&inW r.N (-1048576) 1048576
theorem Qb2 {s:Str} (h:Qad s=true):s.length≤12:=by
  unfold Qad at h
  simp only[Bool.and_eq_true] at h
  have:=(Qdn h.1).2
  omega
theorem Qt1 (r:Qm):QdE r=some (Qgm r):=by
  have len:∀s:Str,((s==[])||Qad s)=true→s.length≤12:=fun s h=>by
    rcases Bool.or_eq_true _ _ |>.mp h with h | h
    · have:s=[]:=by simpa using h
      subst this;simp
    · exact Qb2 h
  unfold QdE Qgm
  simp only[Qf9]
  simp only[Option.bind_some]
  cases Qad r.Name with
  | false=>rfl
  | true=>
    simp only[Sim.opt,Bool.true_and,beq_self_eq_true,if_true,Option.bind_some]
    cases Qad r.Kind with
    | false=>rfl
    | true=>
      simp only[Bool.true_and,beq_self_eq_true,Bool.true_and]
      have la:=len r.A
      have lb:=len r.B
      cases ha:(r.A==[])<;>cases hna:Qad r.A<;>cases hb:(r.B==[])<;>cases hnb:Qad r.B<;>first
        | rfl
        | (rw[ha,hna] at la;rw[hb,hnb] at lb
           have e:cat (r.A.length+r.B.length)=some ():=if_pos (by have:=la rfl;have:=lb rfl;omega)
           simp only[e,Bool.false_or,Bool.or_false,Bool.true_or,Bool.or_true,Bool.and_true,Bool.true_and,Bool.and_self,beq_self_eq_true,if_true,Option.bind_some]
           cases (r.A++r.B !=[])<;>rfl)

end Go.Proofs.YtcdccjagknlmpaaGreatDoor

namespace Go.Proofs.YtcdccjagknlmpaaGreatDoor
open Go.Sim

theorem QiZ:∀(k u:Nat),u<10 ^ (k+1)→(Lib.decDigits u).length≤k+1
 | 0,u,h=>by rw[Lib.decDigits,dif_pos (by simpa using h)];simp
 | k+1,u,h=>by
  rw[Lib.decDigits]
  split
  ·simp
  ·have:=QiZ k (u / 10) (by rw[Nat.pow_succ] at h;omega)
   rw[List.length_append,List.length_singleton];omega
theorem QcC {n:Int} (h:I64 n):(Lib.itoa n).length≤20:=by
 unfold I64 at h
 unfold Lib.itoa
 split
 ·have:=QiZ 18 n.natAbs (by omega)
  rw[List.length_cons];omega
 ·have:=QiZ 18 n.toNat (by omega)
  omega
theorem Qw9 {n:Int} (h:I64 n):Qmn n=some (Lib.itoa n):=if_pos h

/-- The text of a value. -/
def Qd8:AnyV→Str
 | .int n=>Lib.itoa n
 | .str s=>s
def VOk:AnyV→Prop
 | .int n=>I64 n
 | .str s=>s.length≤100
theorem QmB {v:AnyV} (h:VOk v):(Qd8 v).length≤100:=by
 cases v with
 | int n=>have:=QcC h;show (Lib.itoa n).length≤100;omega
 | str s=>exact h
/-- A blank and a value, for each. -/
def toks (l:List AnyV):Str:=l.flatMap fun v=>32::Qd8 v
theorem Qoy {l:List AnyV} (h:∀v∈l,VOk v):(toks l).length≤l.length * 101:=by
 induction l with
 | nil=>simp[toks]
 | cons v l ih=>
  have h1:=ih fun u hu=>h u (List.mem_cons_of_mem _ hu)
  have h2:=QmB (h v List.mem_cons_self)
  have e:toks (v::l)=(32::Qd8 v)++toks l:=rfl
  rw[e,List.length_append,List.length_cons,List.length_cons]
  omega
def Qe5 (w:Str) (l:List AnyV):Str:=w++toks l++[10]
theorem Qgn {a b:Str} (h:a.length+b.length≤68719476736):Qay a b=some (a++b):=if_pos h
theorem QkH {w:Str} {l:List AnyV} (h1:1≤w.length) (h2:w.length≤10) (hl:l.length≤1000) (hv:∀v∈l,VOk v):QaF w l=some (Qe5 w l):=by
 have key:Ok (QaF w l) (fun r=>r=Qe5 w l):=by
  unfold QaF
  rw[Qgn (by simp;omega)]
  simp only[Option.bind_some,List.nil_append]
  refine Ok.bind (P:=fun r=>r=w++toks l) (Ok.loop (fun m s=>0≤s.1∧s.1+m=l.length∧s.2=w++toks (l.take s.1.toNat)) l.length ⟨Int.le_refl _,by dsimp only;omega,by simp[toks]⟩ fun m s hs=>?_) fun r hr=>?_
  ·obtain⟨i,t⟩:=s
   obtain⟨e1,e2,e3⟩:=hs
   dsimp only at e1 e2 e3
   obtain⟨k,rfl⟩:=Int.eq_ofNat_of_zero_le e1
   rw[Int.toNat_natCast] at e3
   subst e3
   refine Ok.ite (fun hk=>?_) (fun hk=>?_)
   ·have hk':k<l.length:=by simpa using hk
    have hvk:=hv _ (List.getElem_mem hk')
    have hlen:=Qoy (l:=l.take k) fun v hm=>hv v (List.mem_of_mem_take hm)
    have htl:=QmB hvk
    have hlk:(l.take k).length≤1000:=by rw[List.length_take];omega
    dsimp only
    rw[Qaa hk']
    simp only[Option.bind_some]
    have eb:Qh1 (w++toks (l.take k)) 32=some (w++toks (l.take k)++[32]):=if_pos ⟨by decide,by decide,by rw[List.length_append];omega⟩
    rw[eb]
    simp only[Option.bind_some]
    refine Ok.bind (P:=fun p=>p=w++toks (l.take k)++[32]++Qd8 l[k]) ?_ fun p hp=>Ok.mk ⟨m - 1,by omega,?_⟩
    ·cases hk2:l[k] with
     | int n=>
      rw[hk2] at hvk htl
      show Ok (if true=true then _ else _) _
      rw[if_pos rfl]
      show Ok ((Qmn n).bind _) _
      rw[Qw9 hvk]
      simp only[Option.bind_some]
      have hi:=QcC hvk
      rw[Qgn (by simp only[List.length_append,List.length_singleton];omega)]
      exact Ok.mk rfl
     | str s=>
      rw[hk2] at hvk htl
      show Ok (if false=true then _ else ((if true=true then (Qay (w++toks (l.take k)++[32]) s).bind _ else _)).bind _) _
      rw[if_neg (by decide),if_pos rfl]
      have hs:s.length≤100:=hvk
      rw[Qgn (by simp only[List.length_append,List.length_singleton];omega)]
      exact Ok.mk rfl
    ·subst hp
     dsimp only
     rw[Q1 hk' (by omega)]
     refine⟨by omega,by omega,?_⟩
     rw[Int.toNat_natCast,List.take_succ_eq_append_getElem hk']
     simp only[toks,List.flatMap_append,List.flatMap_cons,List.flatMap_nil,List.append_nil,List.append_assoc,List.cons_append,List.nil_append]
   ·have hk':¬k<l.length:=by simpa using hk
    refine Ok.mk ?_
    dsimp only
    rw[List.take_of_length_le (by omega)]
  ·subst hr
   have hlen:=Qoy hv
   have eb:Qgh (w++toks l)=some (w++toks l):=if_neg fun h=>by
    have:=congrArg List.length h
    rw[List.length_append,List.length_nil] at this;omega
   rw[eb]
   simp only[Option.bind_some]
   exact Ok.cat (by rw[List.length_append,List.length_singleton];omega) (Ok.mk rfl)
 obtain⟨r,hr,rfl⟩:=key
 exact hr
theorem Qht {w:Str} {l:List AnyV} (h2:w.length≤10) (hv:∀v∈l,VOk v):(Qe5 w l).length≤11+l.length * 101:=by
 have:=Qoy hv
 unfold Qe5
 rw[List.length_append,List.length_append,List.length_singleton];omega

/-- The token of a name that may be empty. -/
def Qbe (s:Str):Str:=if s=[] then [45] else s
theorem Qoz (s:Str):QcV s=some (Qbe s):=by
 unfold QcV QeC
 have key:∀body:Int→Option (Int⊕(Unit⊕Str)),(body 0=if (s !=[])=true then some (.inr (.inr s)) else some (.inl 1))→body 1=some (.inr (.inr [45]))→
   QG body 0=some (.inr (Qbe s)):=fun body h0 h1=>by
  rw[Qco,h0]
  unfold Qbe
  by_cases hs:s=[]
  ·rw[if_neg (by simp[hs]),if_pos hs]
   show QG body 1=_
   rw[Qco,h1]
  ·rw[if_pos (by simpa using hs),if_neg hs]
 rw[key _ rfl rfl];rfl

/-- What a line of a field says. -/
def QaR (f:Qb):List AnyV:=
 if f.Kind=0 then [.str f.Name,.int f.Lo]
 else if f.Kind=2 then [.str f.Name,.int f.Lo,.int f.Hi]
 else if f.Kind=3 then [.str f.Name,.int (f.Words.length:Int)]++(f.Words.zip f.Weights).flatMap fun p=>[.str p.1,.int p.2]
 else if f.Kind=6 then [.str f.Name,.str f.Of]
 else if f.Kind=7 then [.str f.Name,.str f.Up,.str f.Of,.int f.Lo,.int f.Hi]
 else if f.Kind=8 then [.str f.Name,.str f.Up,.str f.Of]
 else [.str f.Name,.str (Qbe f.Of),.int f.Lo,.int f.Hi]
def QmC (f:Qb):Str:=QkK[f.Kind.toNat]?.getD []
/-- The line of a field. -/
def Qfy (f:Qb):Str:=Qe5 (QmC f) (QaR f)

end Go.Proofs.YtcdccjagknlmpaaGreatDoor

namespace Go.Proofs.YtcdccjagknlmpaaGreatDoor
open Go.Sim

theorem Qf0 {s:Str} (h:Qad s=true):VOk (.str s):=by have:=Qb2 h;show s.length≤100;omega
theorem Qjt {s:Str} (h:((s==[])||Qad s)=true):VOk (.str (Qbe s)):=by
 unfold Qbe
 by_cases hs:s=[]
 ·rw[if_pos hs];show ([45]:Str).length≤100;decide
 ·rw[if_neg hs]
  have:Qad s=true:=by simpa[hs] using h
  exact Qf0 this
theorem Qb9 {n:Int} (h:-100000000≤n∧n≤100000000):VOk (.int n):=by show I64 n;unfold I64;omega
theorem Qt2 {l:List Str} {g:List Int} (h:l.length=g.length) (k:Nat) (hk:k<l.length):(((l.zip g).take k).flatMap fun p=>[AnyV.str p.1,AnyV.int p.2])++[AnyV.str l[k],AnyV.int (g[k]'(by omega))]=((l.zip g).take (k+1)).flatMap fun p=>[AnyV.str p.1,AnyV.int p.2]:=by
 rw[List.take_succ_eq_append_getElem (by rw[List.length_zip];omega),List.flatMap_append,List.getElem_zip]
 rfl
theorem Qqt (l:List (Str×Int)):(l.flatMap fun p=>[AnyV.str p.1,AnyV.int p.2]).length=2 * l.length:=by
 induction l with
 | nil=>rfl
 | cons a l ih=>rw[List.flatMap_cons,List.length_append,ih];simp;omega
/-- What a valid field is. -/
structure Qp6 (f:Qb):Prop where
 kind:0≤f.Kind∧f.Kind≤8
 items:∀v∈QaR f,VOk v
 count:(QaR f).length≤30
 pick:f.Kind=3→f.Words.length=f.Weights.length∧f.Words.length≤12
theorem Qdt {lo hi a b:Int} (h:Qfx lo hi a b=true):a≤lo∧lo≤hi∧hi≤b:=by
 simp only[Qfx,Bool.and_eq_true,decide_eq_true_eq] at h;omega
theorem Qj3 {f:Qb} (h:QaX f=true):Qp6 f:=by
 unfold QaX at h
 simp only[Bool.and_eq_true] at h
 obtain⟨⟨hn,_⟩,hp⟩:=h
 have hnv:=Qf0 hn
 unfold Qgk at hp
 by_cases c0:f.Kind=0
 ·rw[if_pos c0] at hp
  have e:QaR f=[.str f.Name,.int f.Lo]:=by unfold QaR;rw[if_pos c0]
  refine⟨by omega,?_,by rw[e];simp,fun h=>by omega⟩
  have:=Qdn hp
  rw[e];simp only[List.mem_cons,List.not_mem_nil,or_false,forall_eq_or_imp,forall_eq]
  exact⟨hnv,Qb9 (by omega)⟩
 rw[if_neg c0] at hp
 by_cases c1:f.Kind=1
 ·rw[if_pos c1] at hp
  simp only[Bool.and_eq_true] at hp
  have e:QaR f=[.str f.Name,.str (Qbe f.Of),.int f.Lo,.int f.Hi]:=by unfold QaR;simp[c1]
  have:=Qdt hp.2
  refine⟨by omega,?_,by rw[e];simp,fun h=>by omega⟩
  rw[e];simp only[List.mem_cons,List.not_mem_nil,or_false,forall_eq_or_imp,forall_eq]
  exact⟨hnv,Qjt (by rw[hp.1];simp),Qb9 (by omega),Qb9 (by omega)⟩
 rw[if_neg c1] at hp
 by_cases c2:f.Kind=2
 ·rw[if_pos c2] at hp
  have e:QaR f=[.str f.Name,.int f.Lo,.int f.Hi]:=by unfold QaR;simp[c2]
  have:=Qdt hp
  refine⟨by omega,?_,by rw[e];simp,fun h=>by omega⟩
  rw[e];simp only[List.mem_cons,List.not_mem_nil,or_false,forall_eq_or_imp,forall_eq]
  exact⟨hnv,Qb9 (by omega),Qb9 (by omega)⟩
 rw[if_neg c2] at hp
 by_cases c3:f.Kind=3
 ·rw[if_pos c3] at hp
  simp only[Qkr,Bool.and_eq_true,List.all_eq_true,beq_iff_eq] at hp
  obtain⟨hg,⟨⟨hw,hl⟩,_⟩,hws⟩:=hp
  have hw':=(Qdn hw).2
  have hl':f.Words.length=f.Weights.length:=by omega
  have e:QaR f=[.str f.Name,.int (f.Words.length:Int)]++(f.Words.zip f.Weights).flatMap fun p=>[.str p.1,.int p.2]:=by unfold QaR;simp[c3]
  refine⟨by omega,?_,?_,fun _=>⟨hl',by omega⟩⟩
  ·rw[e]
   intro v hv
   rcases List.mem_append.1 hv with hv | hv
   ·simp only[List.mem_cons,List.not_mem_nil,or_false] at hv
    rcases hv with rfl | rfl
    ·exact hnv
    ·exact Qb9 (by omega)
   ·obtain⟨p,hp,hv⟩:=List.mem_flatMap.1 hv
    obtain⟨a,b⟩:=p
    have hz:=List.of_mem_zip hp
    simp only[List.mem_cons,List.not_mem_nil,or_false] at hv
    rcases hv with rfl | rfl
    ·exact Qf0 (hws _ hz.1)
    ·have:=Qdn (hg _ hz.2);exact Qb9 (by omega)
  ·rw[e,List.length_append,Qqt,List.length_zip]
   simp only[List.length_cons,List.length_nil]
   omega
 rw[if_neg c3] at hp
 by_cases c4:f.Kind=4
 ·rw[if_pos c4] at hp
  simp only[Bool.and_eq_true] at hp
  have e:QaR f=[.str f.Name,.str (Qbe f.Of),.int f.Lo,.int f.Hi]:=by unfold QaR;simp[c4]
  have:=Qdt hp.2
  refine⟨by omega,?_,by rw[e];simp,fun h=>by omega⟩
  rw[e];simp only[List.mem_cons,List.not_mem_nil,or_false,forall_eq_or_imp,forall_eq]
  exact⟨hnv,Qjt hp.1,Qb9 (by omega),Qb9 (by omega)⟩
 rw[if_neg c4] at hp
 by_cases c5:f.Kind=5
 ·rw[if_pos c5] at hp
  simp only[Bool.and_eq_true] at hp
  have e:QaR f=[.str f.Name,.str (Qbe f.Of),.int f.Lo,.int f.Hi]:=by unfold QaR;simp[c5]
  have:=Qdt hp.2
  refine⟨by omega,?_,by rw[e];simp,fun h=>by omega⟩
  rw[e];simp only[List.mem_cons,List.not_mem_nil,or_false,forall_eq_or_imp,forall_eq]
  exact⟨hnv,Qjt (by rw[hp.1];simp),Qb9 (by omega),Qb9 (by omega)⟩
 rw[if_neg c5] at hp
 by_cases c6:f.Kind=6
 ·rw[if_pos c6] at hp
  have e:QaR f=[.str f.Name,.str f.Of]:=by unfold QaR;simp[c6]
  refine⟨by omega,?_,by rw[e];simp,fun h=>by omega⟩
  rw[e];simp only[List.mem_cons,List.not_mem_nil,or_false,forall_eq_or_imp,forall_eq]
  exact⟨hnv,Qf0 hp⟩
 rw[if_neg c6] at hp
 by_cases c7:f.Kind=7
 ·rw[if_pos c7] at hp
  simp only[Bool.and_eq_true] at hp
  have e:QaR f=[.str f.Name,.str f.Up,.str f.Of,.int f.Lo,.int f.Hi]:=by unfold QaR;simp[c7]
  have:=Qdt hp.2
  refine⟨by omega,?_,by rw[e];simp,fun h=>by omega⟩
  rw[e];simp only[List.mem_cons,List.not_mem_nil,or_false,forall_eq_or_imp,forall_eq]
  exact⟨hnv,Qf0 hp.1.2,Qf0 hp.1.1,Qb9 (by omega),Qb9 (by omega)⟩
 rw[if_neg c7] at hp
 by_cases c8:f.Kind=8
 ·rw[if_pos c8] at hp
  simp only[Bool.and_eq_true] at hp
  have e:QaR f=[.str f.Name,.str f.Up,.str f.Of]:=by unfold QaR;simp[c8]
  refine⟨by omega,?_,by rw[e];simp,fun h=>by omega⟩
  rw[e];simp only[List.mem_cons,List.not_mem_nil,or_false,forall_eq_or_imp,forall_eq]
  exact⟨hnv,Qf0 hp.2,Qf0 hp.1⟩
 rw[if_neg c8] at hp
 cases hp
theorem Qqu {f:Qb} (h:0≤f.Kind∧f.Kind≤8):idx QkK f.Kind=some (QmC f)∧1≤(QmC f).length∧(QmC f).length≤10:=by
 obtain⟨k,hk⟩:=Int.eq_ofNat_of_zero_le h.1
 have hk8:k≤8:=by omega
 unfold QmC
 rw[hk,QlS,Int.toNat_natCast]
 have:k=0∨k=1∨k=2∨k=3∨k=4∨k=5∨k=6∨k=7∨k=8:=by omega
 rcases this with rfl | rfl | rfl | rfl | rfl | rfl | rfl | rfl | rfl<;>exact⟨rfl,by decide,by decide⟩
theorem Qu4 {f:Qb} (h:Qp6 f):Qeb f=some (Qfy f):=by
 obtain⟨e0,w1,w2⟩:=Qqu h.kind
 have fin:QaF (QmC f) (QaR f)=some (Qfy f):=QkH w1 w2 (by have:=h.count;omega) h.items
 unfold Qeb
 rw[e0]
 simp only[Option.bind_some]
 by_cases c0:f.Kind=0
 ·rw[if_pos (by simp[c0])]
  have e:QaR f=[.str f.Name,.int f.Lo]:=by unfold QaR;simp[c0]
  rw[←e,fin];rfl
 rw[if_neg (by simpa using c0)]
 by_cases c2:f.Kind=2
 ·rw[if_pos (by simp[c2])]
  have e:QaR f=[.str f.Name,.int f.Lo,.int f.Hi]:=by unfold QaR;simp[c2]
  rw[←e,fin];rfl
 rw[if_neg (by simpa using c2)]
 by_cases c3:f.Kind=3
 ·rw[if_pos (by simp[c3])]
  obtain⟨p1,p2⟩:=h.pick c3
  have e:QaR f=[.str f.Name,.int (f.Words.length:Int)]++(f.Words.zip f.Weights).flatMap fun p=>[.str p.1,.int p.2]:=by unfold QaR;simp[c3]
  refine Qef f.Words.length (fun n=>((n:Int),[.str f.Name,.int (f.Words.length:Int)]++((f.Words.zip f.Weights).take n).flatMap fun p=>[.str p.1,.int p.2])) _ (by simp) (fun n hn=>?_) (if_neg (by simp)) ?_
  ·have hlen:(((f.Words.zip f.Weights).take n).flatMap fun p=>[AnyV.str p.1,AnyV.int p.2]).length≤100:=by
    rw[Qqt,List.length_take,List.length_zip];omega
   rw[if_pos (by simpa using hn)]
   dsimp only
   rw[Qaa hn,Qaa (by omega)]
   simp only[Option.bind_some]
   rw[Qg8 (by simp only[List.length_append,List.length_cons,List.length_nil];omega),Q1 hn (by omega),←Qt2 p1 n hn,List.append_assoc]
   rfl
  ·dsimp only
   rw[List.take_of_length_le (by rw[List.length_zip];omega),←e,fin];rfl
 rw[if_neg (by simpa using c3)]
 by_cases c6:f.Kind=6
 ·rw[if_pos (by simp[c6])]
  have e:QaR f=[.str f.Name,.str f.Of]:=by unfold QaR;simp[c6]
  rw[←e,fin];rfl
 rw[if_neg (by simpa using c6)]
 by_cases c7:f.Kind=7
 ·rw[if_pos (by simp[c7])]
  have e:QaR f=[.str f.Name,.str f.Up,.str f.Of,.int f.Lo,.int f.Hi]:=by unfold QaR;simp[c7]
  rw[←e,fin];rfl
 rw[if_neg (by simpa using c7)]
 by_cases c8:f.Kind=8
 ·rw[if_pos (by simp[c8])]
  have e:QaR f=[.str f.Name,.str f.Up,.str f.Of]:=by unfold QaR;simp[c8]
  rw[←e,fin];rfl
 rw[if_neg (by simpa using c8),Qoz]
 simp only[Option.bind_some]
 have e:QaR f=[.str f.Name,.str (Qbe f.Of),.int f.Lo,.int f.Hi]:=by unfold QaR;simp[c0,c2,c3,c6,c7,c8]
 rw[←e,fin];rfl
theorem Qid {f:Qb} (h:Qp6 f):(Qfy f).length≤4000:=by
 have:=Qht (Qqu h.kind).2.2 h.items
 have:=h.count
 unfold Qfy
 omega

end Go.Proofs.YtcdccjagknlmpaaGreatDoor

namespace Go.Proofs.YtcdccjagknlmpaaGreatDoor
open Go.Sim

/-- A loop that appends. -/
theorem Qeh {α:Type} (l:List α) (g:α→Str) (B:Nat) (hB:∀a∈l,(g a).length≤B) (a0:Str) {body:Int×Str→Option ((Int×Str)⊕Str)}
  (hs:∀k (h:k<l.length) acc,acc.length≤a0.length+k * B→body ((k:Int),acc)=some (.inl (((k+1:Nat):Int),acc++g l[k]))) (he:∀acc,body ((l.length:Int),acc)=some (.inr acc)):
  QG body ((0:Int),a0)=some (a0++l.flatMap g):=by
 have hlen:∀n,n≤l.length→((l.take n).flatMap g).length≤n * B:=fun n=>by
  induction n with
  | zero=>intro _;simp
  | succ n ih=>
   intro hn
   rw[List.take_succ_eq_append_getElem (by omega),List.flatMap_append,List.length_append,Nat.succ_mul]
   have h1:=ih (by omega)
   have h2:=hB _ (List.getElem_mem (show n<l.length by omega))
   simp only[List.flatMap_cons,List.flatMap_nil,List.append_nil]
   omega
 have h:=QjM (body:=body) l.length (fun n=>((n:Int),a0++(l.take n).flatMap g)) (a0++l.flatMap g) (fun k hk=>?_) ?_
 ·simpa using h
 ·rw[hs k hk _ (by rw[List.length_append];have:=hlen k (by omega);omega),List.take_succ_eq_append_getElem hk,List.flatMap_append]
  simp
 ·rw[he];simp

def Qf1 (k:Qj):Str:=Qe5 [107,105,110,100] [.str k.Name,.int k.Lo,.int k.Hi]++k.Fields.flatMap Qfy
def QiD (m:QU):Str:=Qe5 [109,111,118,101] [.int m.a0,.int m.a1]
def QgY (l:Qn):Str:=Qe5 [108,105,102,101] ([.str l.Name,.int (l.States.length:Int)]++l.States.map .str)++l.Moves.flatMap QiD
def Qga (r:Qm):List AnyV:=[.str r.Name,.str r.Kind,.str (Qbe r.A),.str (Qbe r.B),.int r.N]
def Qju (r:Qm):Str:=Qe5 [114,117,108,101] (Qga r)
/-- The source. -/
def srcS (x:Qg):Str:=Qe5 [115,99,104,101,109,97] [.int x.Version]++x.Kinds.flatMap Qf1++x.Lives.flatMap QgY++x.Rules.flatMap Qju

theorem Qi0 {k:Qj} (h:Qd7 k=true):(∀v∈[AnyV.str k.Name,.int k.Lo,.int k.Hi],VOk v)∧k.Fields.length≤10∧∀f∈k.Fields,QaX f=true:=by
 simp only[Qd7,Bool.and_eq_true,List.all_eq_true,decide_eq_true_eq] at h
 obtain⟨⟨⟨h1,h2⟩,h3⟩,h4⟩:=h
 have:=Qdt h2
 refine⟨?_,by omega,h4⟩
 simp only[List.mem_cons,List.not_mem_nil,or_false,forall_eq_or_imp,forall_eq]
 exact⟨Qf0 h1,Qb9 (by omega),Qb9 (by omega)⟩
theorem Qhu {α:Type} {l:List α} {g:α→Str} {B:Nat} (h:∀a∈l,(g a).length≤B):(l.flatMap g).length≤l.length * B:=by
 induction l with
 | nil=>simp
 | cons a l ih=>
  have h1:=ih fun b hb=>h b (List.mem_cons_of_mem _ hb)
  have h2:=h a List.mem_cons_self
  rw[List.flatMap_cons,List.length_append,List.length_cons,Nat.succ_mul];omega
theorem Qls {k:Qj} (h:Qd7 k=true):(Qf1 k).length≤50000:=by
 obtain⟨h1,h2,h3⟩:=Qi0 h
 have e1:=Qht (w:=[107,105,110,100]) (by decide) h1
 have e2:=Qhu (l:=k.Fields) (g:=Qfy) (B:=4000) fun f hf=>Qid (Qj3 (h3 f hf))
 unfold Qf1
 rw[List.length_append]
 simp only[List.length_cons,List.length_nil] at e1
 omega
theorem Qt3 {n:Int} (hn:n≤1000) {m:QU} (h:QjO n m=true):∀v∈[AnyV.int m.a0,.int m.a1],VOk v:=by
 simp only[QjO,Bool.and_eq_true] at h
 have h1:=Qdn h.1
 have h2:=Qdn h.2
 simp only[List.mem_cons,List.not_mem_nil,or_false,forall_eq_or_imp,forall_eq]
 exact⟨Qb9 (by omega),Qb9 (by omega)⟩
theorem Qt4 {l:Qn} (h:Qgl l=true):(∀v∈[AnyV.str l.Name,.int (l.States.length:Int)]++l.States.map .str,VOk v)∧l.States.length≤12∧l.Moves.length≤32∧∀m∈l.Moves,∀v∈[AnyV.int m.a0,.int m.a1],VOk v:=by
 simp only[Qgl,Bool.and_eq_true,List.all_eq_true,decide_eq_true_eq] at h
 obtain⟨⟨⟨⟨h1,h2⟩,h3⟩,h4⟩,h5⟩:=h
 have hl:=(Qdn h2).2
 refine⟨fun v hv=>?_,by omega,by omega,fun m hm=>Qt3 (by omega) (h5 m hm)⟩
 rcases List.mem_append.1 hv with hv | hv
 ·simp only[List.mem_cons,List.not_mem_nil,or_false] at hv
  rcases hv with rfl | rfl
  ·exact Qf0 h1
  ·exact Qb9 (by omega)
 ·obtain⟨s,hs,rfl⟩:=List.mem_map.1 hv
  exact Qf0 (h3 s hs)
theorem QjP {m:QU} (h:∀v∈[AnyV.int m.a0,.int m.a1],VOk v):(QiD m).length≤300:=by
 have:=Qht (w:=[109,111,118,101]) (by decide) h
 simp only[List.length_cons,List.length_nil] at this
 unfold QiD;omega
theorem QjQ {l:Qn} (h:Qgl l=true):(QgY l).length≤20000:=by
 obtain⟨h1,h2,h3,h4⟩:=Qt4 h
 have e1:=Qht (w:=[108,105,102,101]) (by decide) h1
 have e2:=Qhu (l:=l.Moves) (g:=QiD) (B:=300) fun m hm=>QjP (h4 m hm)
 unfold QgY
 rw[List.length_append]
 simp only[List.length_append,List.length_cons,List.length_nil,List.length_map] at e1
 omega
theorem Qt5 {r:Qm} (h:Qgm r=true):∀v∈Qga r,VOk v:=by
 simp only[Qgm,Bool.and_eq_true] at h
 obtain⟨⟨⟨⟨⟨h1,h2⟩,h3⟩,h4⟩,_⟩,h5⟩:=h
 have:=Qdn h5
 unfold Qga
 simp only[List.mem_cons,List.not_mem_nil,or_false,forall_eq_or_imp,forall_eq]
 exact⟨Qf0 h1,Qf0 h2,Qjt h3,Qjt h4,Qb9 (by omega)⟩
theorem Qlt {r:Qm} (h:Qgm r=true):(Qju r).length≤1000:=by
 have:=Qht (w:=[114,117,108,101]) (by decide) (Qt5 h)
 have e:(Qga r).length=5:=rfl
 unfold Qju;omega

/-- A schema is valid, apart from the length of its source. -/
def Qh6 (x:Qg):Bool:=((((inW x.Version 0 1048576&&decide ((x.Kinds.length:Int)≤6))&&decide ((x.Lives.length:Int)≤6))&&decide ((x.Rules.length:Int)≤16))&&x.Kinds.all Qd7)&&x.Lives.all Qgl&&x.Rules.all Qgm
structure QlW (x:Qg):Prop where
 version:0≤x.Version∧x.Version≤1048576
 kinds:x.Kinds.length≤6
 lives:x.Lives.length≤6
 rules:x.Rules.length≤16
 kind:∀k∈x.Kinds,Qd7 k=true
 life:∀l∈x.Lives,Qgl l=true
 rule:∀r∈x.Rules,Qgm r=true
theorem Qlg {x:Qg} (h:Qh6 x=true):QlW x:=by
 simp only[Qh6,Bool.and_eq_true,List.all_eq_true,decide_eq_true_eq] at h
 obtain⟨⟨⟨⟨⟨⟨h1,h2⟩,h3⟩,h4⟩,h5⟩,h6⟩,h7⟩:=h
 exact⟨Qdn h1,by omega,by omega,by omega,h5,h6,h7⟩

theorem Qt6 {x:Qg} (h:QlW x):QdF x=some (srcS x):=by
 have hv:=h.version
 have v0:∀v∈[AnyV.int x.Version],VOk v:=by simp only[List.mem_cons,List.not_mem_nil,or_false,forall_eq];exact Qb9 (by omega)
 have l0:=Qht (w:=[115,99,104,101,109,97]) (by decide) v0
 simp only[List.length_cons,List.length_nil] at l0
 have lk:=Qhu (l:=x.Kinds) (g:=Qf1) (B:=50000) fun k hk=>Qls (h.kind k hk)
 have ll:=Qhu (l:=x.Lives) (g:=QgY) (B:=20000) fun k hk=>QjQ (h.life k hk)
 have nk:=h.kinds
 have nl:=h.lives
 have nr:=h.rules
 unfold QdF
 rw[QkH (by decide) (by decide) (by simp) v0]
 simp only[Option.bind_some]
 rw[Qgn (by rw[List.length_nil];omega)]
 simp only[Option.bind_some,List.nil_append]
 rw[Qeh x.Kinds Qf1 50000 (fun k hk=>Qls (h.kind k hk)) (Qe5 [115,99,104,101,109,97] [.int x.Version]) (fun k hk acc hacc=>?_) (fun acc=>if_neg (by simp))]
 ·simp only[Option.bind_some]
  rw[Qeh x.Lives QgY 20000 (fun k hk=>QjQ (h.life k hk)) (Qe5 [115,99,104,101,109,97] [.int x.Version]++x.Kinds.flatMap Qf1) (fun k hk acc hacc=>?_) (fun acc=>if_neg (by simp))]
  ·simp only[Option.bind_some]
   rw[Qeh x.Rules Qju 1000 (fun k hk=>Qlt (h.rule k hk)) (Qe5 [115,99,104,101,109,97] [.int x.Version]++x.Kinds.flatMap Qf1++x.Lives.flatMap QgY) (fun k hk acc hacc=>?_) (fun acc=>if_neg (by simp))]
   ·simp only[Option.bind_some]
    have e:Qgh (srcS x)=some (srcS x):=if_neg fun h=>by
     have:=congrArg List.length h
     simp only[srcS,Qe5,List.length_append,List.length_cons,List.length_nil] at this;omega
    show (Qgh (srcS x)).bind _=_
    rw[e];rfl
   ·have hr:=h.rule _ (List.getElem_mem hk)
    have hrl:=Qlt hr
    rw[if_pos (by simpa using hk)]
    dsimp only
    rw[Qaa hk]
    simp only[Option.bind_some]
    rw[Qoz,Qoz]
    simp only[Option.bind_some]
    show (QaF [114,117,108,101] (Qga x.Rules[k])).bind _=_
    rw[QkH (by decide) (by decide) (by simp[Qga]) (Qt5 hr)]
    simp only[Option.bind_some]
    rw[List.length_append,List.length_append] at hacc
    rw[Qgn (by show acc.length+(Qju x.Rules[k]).length≤_;omega),Q1 hk (by omega)]
    rfl
  ·have hl:=h.life _ (List.getElem_mem hk)
   obtain⟨w1,w2,w3,w4⟩:=Qt4 hl
   have hll:=QjQ hl
   rw[if_pos (by simpa using hk)]
   dsimp only
   rw[Qaa hk]
   simp only[Option.bind_some]
   have hst:∀n,n≤x.Lives[k].States.length→([AnyV.str x.Lives[k].Name,.int (x.Lives[k].States.length:Int)]++(x.Lives[k].States.take n).map AnyV.str).length≤100:=fun n hn=>by
    simp only[List.length_append,List.length_cons,List.length_nil,List.length_map,List.length_take];omega
   refine Qef x.Lives[k].States.length (fun n=>((n:Int),[AnyV.str x.Lives[k].Name,.int (x.Lives[k].States.length:Int)]++(x.Lives[k].States.take n).map AnyV.str)) _ (by simp) (fun n hn=>?_) (if_neg (by simp)) ?_
   ·rw[if_pos (by simpa using hn)]
    dsimp only
    rw[Qaa hn]
    simp only[Option.bind_some]
    rw[Qg8 (by have:=hst n (by omega);rw[List.length_singleton];omega),Q1 hn (by omega),List.take_succ_eq_append_getElem hn,List.map_append,←List.append_assoc]
    rfl
   ·dsimp only
    rw[List.take_of_length_le (Nat.le_refl _),QkH (by decide) (by decide) (by have:=hst _ (Nat.le_refl _);rw[List.take_of_length_le (Nat.le_refl _)] at this;omega) w1]
    simp only[Option.bind_some]
    have l1:=Qht (w:=[108,105,102,101]) (by decide) w1
    simp only[List.length_append,List.length_cons,List.length_nil,List.length_map] at l1
    rw[List.length_append] at hacc
    rw[Qgn (by omega)]
    simp only[Option.bind_some]
    rw[Qeh x.Lives[k].Moves QiD 300 (fun m hm=>QjP (w4 m hm)) _ (fun q hq acc2 hacc2=>?_) (fun acc=>if_neg (by simp))]
    ·simp only[Option.bind_some]
     rw[Q1 hk (by omega)]
     simp[QgY]
    ·have hm:=w4 _ (List.getElem_mem hq)
     have hml:=QjP hm
     rw[if_pos (by simpa using hq)]
     dsimp only
     rw[Qaa hq]
     simp only[Option.bind_some]
     rw[QkH (by decide) (by decide) (by simp) hm]
     simp only[Option.bind_some]
     rw[List.length_append] at hacc2
     rw[Qgn (by show acc2.length+(QiD x.Lives[k].Moves[q]).length≤_;omega),Q1 hq (by omega)]
     rfl
 ·have hk':=h.kind _ (List.getElem_mem hk)
  obtain⟨w1,w2,w3⟩:=Qi0 hk'
  have l1:=Qht (w:=[107,105,110,100]) (by decide) w1
  simp only[List.length_cons,List.length_nil] at l1
  rw[if_pos (by simpa using hk)]
  dsimp only
  rw[Qaa hk]
  simp only[Option.bind_some]
  rw[QkH (by decide) (by decide) (by simp) w1]
  simp only[Option.bind_some]
  rw[Qgn (by omega)]
  simp only[Option.bind_some]
  rw[Qeh x.Kinds[k].Fields Qfy 4000 (fun f hf=>Qid (Qj3 (w3 f hf))) _ (fun q hq acc2 hacc2=>?_) (fun acc=>if_neg (by simp))]
  ·simp only[Option.bind_some]
   rw[Q1 hk (by omega)]
   simp[Qf1]
  ·have hf:=Qj3 (w3 _ (List.getElem_mem hq))
   have hfl:=Qid hf
   rw[if_pos (by simpa using hq)]
   dsimp only
   rw[Qaa hq]
   simp only[Option.bind_some]
   rw[Qu4 hf]
   simp only[Option.bind_some]
   rw[List.length_append] at hacc2
   rw[Qgn (by omega),Q1 hq (by omega)]
   rfl

/-- What Valid returns. -/
def QgO (x:Qg):Int:=if Qh6 x=true then (if (srcS x).length>8192 then 4 else 0) else 1
/-- A schema whose lists are not huge. -/
def Fine (x:Qg):Prop:=(x.Kinds.length≤1000000∧∀k∈x.Kinds,Qnx k.Fields)∧(x.Lives.length≤1000000∧∀l∈x.Lives,l.States.length≤1000000∧l.Moves.length≤1000000)∧x.Rules.length≤1000000
theorem Sz.fine {x:Qg} (h:Sz x):Fine x:=by
 obtain⟨⟨a1,a2⟩,⟨b1,b2⟩,c,_⟩:=h
 refine⟨⟨by omega,fun k hk=>⟨by have:=(a2 k hk).1;omega,fun f hf=>?_⟩⟩,⟨by omega,fun l hl=>?_⟩,by omega⟩
 ·have:=(a2 k hk).2.1 f hf
  exact⟨by have:=this.1;omega,by have:=this.2.1;omega⟩
 ·have:=b2 l hl
  exact⟨by omega,by omega⟩
theorem Qu5 {x:Qg} (h:Fine x):Qec x=some (QgO x):=by
 obtain⟨⟨a1,a2⟩,⟨b1,b2⟩,c⟩:=h
 unfold Qec
 rw[Qw5 (p:=Qd7) a1 (fun k hk=>QtZ (a2 k hk)),Qw6 (p:=Qgl) b1 (fun l hl=>Qt0 (b2 l hl).1 (b2 l hl).2),Qw7 (p:=Qgm) c (fun r _=>Qt1 r)]
 show (some (inW x.Version 0 1048576)).bind _=_
 simp only[Option.bind_some]
 have n1:∀(n:Nat) (m:Int),decide ((n:Int)>m)=!decide ((n:Int)≤m):=fun n m=>by
  by_cases h:(n:Int)≤m
  ·rw[decide_eq_true h,decide_eq_false (by omega)];rfl
  ·rw[decide_eq_false h,decide_eq_true (by omega)];rfl
 rw[n1,n1,n1]
 unfold QgO
 cases hv:Qh6 x with
 | true=>
  have hs:=Qt6 (Qlg hv)
  simp only[Qh6,Bool.and_eq_true] at hv
  obtain⟨⟨⟨⟨⟨⟨h1,h2⟩,h3⟩,h4⟩,h5⟩,h6⟩,h7⟩:=hv
  simp only[h1,h2,h3,h4,h5,h6,h7,Sim.opt,Bool.not_true,Bool.or_self,beq_self_eq_true,if_true,Option.bind_some]
  rw[if_neg (by decide),hs]
  simp only[Option.bind_some]
  by_cases hl:(srcS x).length>8192
  ·rw[if_pos (by simp;omega),if_pos hl]
  ·rw[if_neg (by simp;omega),if_neg hl]
 | false=>
  rw[if_neg (by decide)]
  unfold Qh6 at hv
  cases h1:inW x.Version 0 1048576<;>cases h2:decide ((x.Kinds.length:Int)≤6)<;>cases h3:decide ((x.Lives.length:Int)≤6)<;>cases h4:decide ((x.Rules.length:Int)≤16)<;>
   cases h5:x.Kinds.all Qd7<;>cases h6:x.Lives.all Qgl<;>cases h7:x.Rules.all Qgm<;>first | rfl | (rw[h1,h2,h3,h4,h5,h6,h7] at hv;cases hv)

end Go.Proofs.YtcdccjagknlmpaaGreatDoor

namespace Go.Proofs.YtcdccjagknlmpaaGreatDoor
open Go.Sim

def Qbk:List Qy→Int
 | []=>0
 | f::r=>if f.is=true then f.code else Qbk r
theorem Qii {l:List Qy} (hl:l.length≤1000):Qaz l=some (Qbk l):=by
 have key:Ok (Qaz l) (fun r=>r=Qbk l):=by
  unfold Qaz
  refine Ok.bind (P:=fun e:Unit⊕Int=>(match e with | .inl _=>0 | .inr r=>r)=Qbk l) (Ok.loop (fun m s=>0≤s∧s+m=l.length∧Qbk (l.drop s.toNat)=Qbk l) l.length ⟨Int.le_refl _,by omega,by simp⟩ fun m s hs=>?_) fun e he=>by cases e<;>exact Ok.mk he
  obtain⟨h1,h2,h3⟩:=hs
  obtain⟨k,rfl⟩:=Int.eq_ofNat_of_zero_le h1
  rw[Int.toNat_natCast] at h3
  refine Ok.ite (fun hk=>?_) (fun hk=>?_)
  ·have hk':k<l.length:=by simpa using hk
   rw[Qaa hk']
   simp only[Option.bind_some]
   rw[List.drop_eq_getElem_cons hk',Qbk] at h3
   refine Ok.ite (fun hi=>Ok.mk ?_) (fun hi=>Ok.mk ⟨m - 1,by omega,?_⟩)
   ·rw[if_pos hi] at h3;exact h3
   ·rw[if_neg (by rw[hi];decide)] at h3
    rw[Q1 hk' (by omega)]
    exact⟨by omega,by omega,by rw[Int.toNat_natCast];exact h3⟩
  ·have hk':¬k<l.length:=by simpa using hk
   rw[List.drop_of_length_le (by omega)] at h3
   exact Ok.mk h3
 obtain⟨r,hr,rfl⟩:=key
 exact hr

/-- The field above to which Of leads. -/
def topS (x:Qg) (k j:Int) (f:Qb):Qb×Bool:=
 if upIx x k j<0 then (Qdu,false)
 else match idx x.Kinds (upIx x k j) with
  | none=>(Qdu,false)
  | some q=>match field? x (upIx x k j) (Qav q f.Of) with | some g=>(g,true) | none=>(Qdu,false)
def Qt7 (g:Qb):Bool:=((((g.Kind==2)||(g.Kind==3))||(g.Kind==4))||(g.Kind==5))||(g.Kind==8)
/-- The error of a field whose name is not there twice. -/
def QjR (x:Qg) (q:Qj) (k j:Int) (f:Qb):Int:=
 if f.Kind=0 then Qbk [⟨decide (j>0),13⟩]
 else if f.Kind=1 then Qbk [⟨decide (upIx x k j<0),12⟩]
 else if f.Kind=4 then Qbk [⟨(f.Of !=[])&&(((decide (Qav q f.Of<0))||(decide (Qav q f.Of≥j)))||((match field? x k (Qav q f.Of) with | some g=>(g,true) | none=>(Qdu,false)).1.Kind !=4)),12⟩]
 else if f.Kind=5 then Qbk [⟨!(x.Lives.any fun l=>l.Name==f.Of),12⟩]
 else if f.Kind=6 then Qbk [⟨decide ((Qlf x k f).1<0),12⟩,⟨((Qlf x k f).2.length:Int) !=1,11⟩]
 else if f.Kind=7 then Qbk [⟨decide (upIx x k j<0),12⟩,⟨((!(topS x k j f).2)||((topS x k j f).1.Kind !=6))||(Q4 x (topS x k j f).1.Of !=k),13⟩]
 else if f.Kind=8 then Qbk [⟨decide (upIx x k j<0),12⟩,⟨(!(topS x k j f).2)||(!Qt7 (topS x k j f).1),13⟩]
 else 0
theorem Qsl (x:Qg) (k j:Int) (hk:0≤k):upIx x k j<k∧-1≤upIx x k j:=by
 have hr:∀g,QiW x k g<k∧-1≤QiW x k g:=fun g=>by
  have:=Qj2 x g.Of
  unfold QiW;split<;>omega
 unfold upIx
 cases field? x k j with
 | none=>exact⟨by dsimp only;omega,by dsimp only;omega⟩
 | some f=>
  dsimp only
  split
  ·split
   ·omega
   ·split
    ·split
     ·split
      ·exact hr _
      ·omega
     ·omega
    ·omega
  ·split
   ·exact hr _
   ·omega
theorem Qt8 {x:Qg} {k j:Int} {f:Qb} (hx:Few x) (hk:0≤k) (hkl:k<x.Kinds.length):Qci ⟨x,k,j,f⟩=some (topS x k j f):=by
 unfold Qci topS
 rw[QkW hx]
 simp only[Option.bind_some]
 by_cases hu:upIx x k j<0
 ·rw[if_pos (by simpa using hu),if_pos hu];rfl
 ·rw[if_neg (by simpa using hu),if_neg hu]
  have h1:=Qsl x k j hk
  obtain⟨q,hq,hqm⟩:=Qdm (l:=x.Kinds) (i:=upIx x k j) (by omega) (by omega)
  rw[hq]
  simp only[Option.bind_some]
  rw[Qfw (by have:=hx.2 q hqm;omega)]
  simp only[Option.bind_some]
  rw[QmA]
  cases field? x (upIx x k j) (Qav q f.Of)<;>rfl
theorem Qp7 {x:Qg} {k j:Int} {f:Qb} (hx:Few x):QbC ⟨x,k,j,f⟩=some (decide (upIx x k j<0)):=by
 unfold QbC
 rw[QkW hx];rfl
theorem Qu6 {x:Qg} {k j:Int} {q:Qj} {f:Qb} (hx:Few x) (hl:x.Lives.length≤1000) (hq:idx x.Kinds k=some q) (hf:field? x k j=some f) (h:(Qbx f.Kind).isSome=true):Ql9 (Qcy.mk (Qbx f.Kind)).check ⟨x,k,j,f⟩=some (QjR x q k j f):=by
 obtain⟨q',hk,hj,hq',hqf,hqm,hkl,hjl⟩:=Qct hf
 rw[hq] at hq';cases hq'
 have one:∀a,Qaz [a]=some (Qbk [a]):=fun a=>Qii (by simp)
 have two:∀a b,Qaz [a,b]=some (Qbk [a,b]):=fun a b=>Qii (by simp)
 unfold QjR
 dsimp only
 by_cases c0:f.Kind=0
 ·rw[if_pos c0,c0]
  show Qcd _=_
  unfold Qcd;rw[one];rfl
 rw[if_neg c0]
 by_cases c1:f.Kind=1
 ·rw[if_pos c1,c1]
  show Qce _=_
  unfold Qce;rw[Qp7 hx];simp only[Option.bind_some];rw[one];rfl
 rw[if_neg c1]
 by_cases c4:f.Kind=4
 ·rw[if_pos c4,c4]
  show Qcf _=_
  unfold Qcf
  dsimp only
  rw[hq]
  simp only[Option.bind_some]
  rw[Qfw (by have:=hx.2 q hqm;omega)]
  simp only[Option.bind_some]
  rw[QmA]
  simp only[Option.bind_some]
  rw[one];rfl
 rw[if_neg c4]
 by_cases c5:f.Kind=5
 ·rw[if_pos c5,c5]
  show Qcg _=_
  unfold Qcg
  dsimp only
  rw[QkX (s:=x.Lives) (f:=fun x0=>Qc8 x0 ⟨x,k,j,f⟩) (p:=fun l=>l.Name==f.Of) (by omega) (fun l _=>rfl)]
  simp only[Option.bind_some]
  rw[one];rfl
 rw[if_neg c5]
 by_cases c6:f.Kind=6
 ·rw[if_pos c6]
  show Ql9 (Qbx f.Kind) _=_
  rw[c6]
  show Qch _=_
  unfold Qch
  dsimp only
  rw[QtT hx hk]
  simp only[Option.bind_some]
  rw[two];rfl
 rw[if_neg c6]
 by_cases c7:f.Kind=7
 ·rw[if_pos c7]
  show Ql9 (Qbx f.Kind) _=_
  rw[c7]
  show Qcj _=_
  unfold Qcj
  rw[Qt8 hx hk hkl,Qp7 hx]
  simp only[Option.bind_some]
  rw[QeG (by have:=hx.1;omega)]
  cases hc:((!(topS x k j f).2)||((topS x k j f).1.Kind !=6)) with
  | true=>
   simp only[Sim.opt,Bool.true_or]
   show (Qaz _).bind _=_
   rw[two];rfl
  | false=>
   simp only[Sim.opt,beq_self_eq_true,if_true,Option.bind_some]
   rw[two];rfl
 rw[if_neg c7]
 by_cases c8:f.Kind=8
 ·rw[if_pos c8]
  show Ql9 (Qbx f.Kind) _=_
  rw[c8]
  show Qck _=_
  unfold Qck
  rw[Qt8 hx hk hkl,Qp7 hx]
  simp only[Option.bind_some]
  rw[two];rfl
 rw[Qbx,if_neg c0,if_neg c1,if_neg c4,if_neg c5,if_neg c6,if_neg c7,if_neg c8] at h
 cases h
theorem Qu7 {x:Qg} {k j:Int} {q:Qj} {f:Qb} (h:(Qbx f.Kind).isSome=false):QjR x q k j f=0:=by
 unfold QjR
 by_cases c0:f.Kind=0
 ·rw[c0] at h;cases h
 by_cases c1:f.Kind=1
 ·rw[c1] at h;cases h
 by_cases c4:f.Kind=4
 ·rw[c4] at h;cases h
 by_cases c5:f.Kind=5
 ·rw[c5] at h;cases h
 by_cases c6:f.Kind=6
 ·rw[c6] at h;cases h
 by_cases c7:f.Kind=7
 ·rw[c7] at h;cases h
 by_cases c8:f.Kind=8
 ·rw[c8] at h;cases h
 rw[if_neg c0,if_neg c1,if_neg c4,if_neg c5,if_neg c6,if_neg c7,if_neg c8]

/-- The error of a kind. -/
def Qks (x:Qg) (i:Int) (q:Qj):Int:=Qbk [⟨decide (Q4 x q.Name<i),7⟩,⟨((q.Fields.length:Int)==0)||((q.Fields.headD Qdu).Kind !=0),11⟩]
theorem Qxa {x:Qg} {i:Int} {q:Qj} (hx:Few x) (hq:idx x.Kinds i=some q):QeM x i=some (Qks x i q):=by
 unfold QeM Qks
 rw[hq]
 simp only[Option.bind_some]
 rw[QeG (by have:=hx.1;omega)]
 simp only[Option.bind_some]
 cases hf:q.Fields with
 | nil=>
  show (Qaz _).bind _=_
  rw[Qii (by simp)];rfl
 | cons f fs=>
  have e:(((f::fs).length:Int)==0)=false:=by simp;omega
  rw[e]
  simp only[Sim.opt,beq_self_eq_true,if_true]
  rw[show idx (f::fs) (0:Int)=some f from rfl]
  simp only[Option.bind_some]
  rw[Qii (by simp)];rfl

/-- The error of a rule. -/
def Qny (x:Qg) (k:Int) (n:Str):Qb×Bool:=match idx x.Kinds k with | none=>(Qdu,false) | some q=>match field? x k (Qav q n) with | some g=>(g,true) | none=>(Qdu,false)
def Qdv (x:Qg) (k:Int) (n:Str):Bool:=!((n==[])||decide (k<0))&&!(Qny x k n).2
def Qdo (x:Qg) (k:Int) (n:Str):Bool:=!((n==[])||decide (k<0))&&(((Qny x k n).1.Kind !=2)&&((Qny x k n).1.Kind !=4))
def Qpp (x:Qg) (i:Nat) (r:Qm):Int:=
 Qbk [⟨(x.Rules.take i).any fun s=>s.Name==r.Name,7⟩,⟨(decide (Q4 x r.Kind<0)||Qdv x (Q4 x r.Kind) r.A)||Qdv x (Q4 x r.Kind) r.B,12⟩,⟨Qdo x (Q4 x r.Kind) r.A||Qdo x (Q4 x r.Kind) r.B,13⟩,⟨r.A==r.B,1⟩]
theorem Qqv {β:Type} {x:Qg} {k:Int} {n:Str} {a b:Bool} (hx:Few x) (hk:k<x.Kinds.length) (g:Bool×Bool→β):
  (if ((n==([]:Str))||(decide (k<0)))=true then some (g (a,b)) else (idx x.Kinds k).bind fun t53=>(QbE t53 n).bind fun t56=>(QcW x k t56).bind fun t57=>some (g ((a||(!t57.2)),(b||((t57.1.Kind !=2)&&(t57.1.Kind !=4))))))=some (g (a||Qdv x k n,b||Qdo x k n)):=by
 unfold Qdv Qdo
 cases hc:((n==([]:Str))||(decide (k<0))) with
 | true=>rw[if_pos rfl];simp
 | false=>
  rw[if_neg (by decide)]
  simp only[Bool.or_eq_false_iff,decide_eq_false_iff_not] at hc
  obtain⟨q,hq,hqm⟩:=Qdm (l:=x.Kinds) (i:=k) (by omega) hk
  unfold Qny
  rw[hq]
  simp only[Option.bind_some]
  rw[Qfw (by have:=hx.2 q hqm;omega)]
  simp only[Option.bind_some]
  rw[QmA]
  cases field? x k (Qav q n)<;>simp

end Go.Proofs.YtcdccjagknlmpaaGreatDoor

namespace Go.Proofs.YtcdccjagknlmpaaGreatDoor
open Go.Sim

theorem Qxb {x:Qg} {i:Nat} {r:Qm} (hx:Few x) (hl:x.Rules.length≤1000) (hi:i<x.Rules.length) (hr:x.Rules[i]?=some r):QeN x (i:Int)=some (Qpp x i r):=by
 unfold QeN
 rw[QlS,hr]
 simp only[Option.bind_some]
 have hs:Sim.sub x.Rules 0 (i:Int)=some (x.Rules.take i):=by
  unfold Sim.sub
  rw[if_pos ⟨by decide,by omega,by omega⟩];simp
 rw[hs]
 simp only[Option.bind_some]
 rw[Qnv (f:=fun x0=>QeF x0 r) (p:=fun s=>s.Name==r.Name) (by rw[List.length_take];omega) (fun s _=>rfl)]
 simp only[Option.bind_some]
 rw[QeG (by have:=hx.1;omega)]
 simp only[Option.bind_some]
 have hk:=(Qj2 x r.Kind).2
 let st:Nat→Int×Bool×Bool:=fun n=>match n with
  | 0=>(0,decide (Q4 x r.Kind<0),false)
  | 1=>(1,decide (Q4 x r.Kind<0)||Qdv x (Q4 x r.Kind) r.A,false||Qdo x (Q4 x r.Kind) r.A)
  | _=>(2,(decide (Q4 x r.Kind<0)||Qdv x (Q4 x r.Kind) r.A)||Qdv x (Q4 x r.Kind) r.B,(false||Qdo x (Q4 x r.Kind) r.A)||Qdo x (Q4 x r.Kind) r.B)
 refine Qef 2 st ((st 2).2.1,(st 2).2.2) rfl (fun n hn=>?_) rfl ?_
 ·have:n=0∨n=1:=by omega
  rcases this with rfl | rfl
  ·have h:=Qqv (x:=x) (k:=Q4 x r.Kind) (n:=r.A) (a:=decide (Q4 x r.Kind<0)) (b:=false) hx hk id
   show (Option.bind (if _ then _ else _) _:Option _)=_
   exact (congrArg (fun o=>Option.bind o (fun p55:Bool×Bool=>some (Sum.inl ((IntKind.i64.wrap ((0:Int)+(1:Int))),p55.1,p55.2)))) h:_)
  ·have h:=Qqv (x:=x) (k:=Q4 x r.Kind) (n:=r.B) (a:=decide (Q4 x r.Kind<0)||Qdv x (Q4 x r.Kind) r.A) (b:=false||Qdo x (Q4 x r.Kind) r.A) hx hk id
   show (Option.bind (if _ then _ else _) _:Option _)=_
   exact (congrArg (fun o=>Option.bind o (fun p55:Bool×Bool=>some (Sum.inl ((IntKind.i64.wrap ((1:Int)+(1:Int))),p55.1,p55.2)))) h:_)
 ·dsimp only
  rw[Qii (by simp)]
  simp[st,Qpp]

/-- A loop that collects. -/
theorem Qhv {β:Type} (n:Nat) (g:Nat→List β) (B:Nat) (hB:∀k,k<n→(g k).length≤B) (a0:List β) {body:Int×List β→Option ((Int×List β)⊕List β)}
  (hs:∀k,k<n→∀acc:List β,acc.length≤a0.length+k * B→body ((k:Int),acc)=some (.inl (((k+1:Nat):Int),acc++g k))) (he:∀acc,body ((n:Int),acc)=some (.inr acc)):
  QG body ((0:Int),a0)=some (a0++(List.range n).flatMap g):=by
 have hlen:∀m,m≤n→((List.range m).flatMap g).length≤m * B:=fun m=>by
  induction m with
  | zero=>intro _;simp
  | succ m ih=>
   intro hm
   rw[List.range_succ,List.flatMap_append,List.length_append,Nat.succ_mul]
   have h1:=ih (by omega)
   have h2:=hB m (by omega)
   simp only[List.flatMap_cons,List.flatMap_nil,List.append_nil]
   omega
 have h:=QjM (body:=body) n (fun m=>((m:Int),a0++(List.range m).flatMap g)) (a0++(List.range n).flatMap g) (fun k hk=>?_) ?_
 ·simpa using h
 ·rw[hs k hk _ (by rw[List.length_append];have:=hlen k (by omega);omega),List.range_succ,List.flatMap_append]
  simp
 ·rw[he]

def prob (k j r e:Int):List Qt:=if e=0 then [] else [⟨k,j,r,e⟩]
theorem Qij (k j r e:Int):(prob k j r e).length≤1:=by unfold prob;split<;>simp
theorem Qpq {k j r e:Int} {l:List Qt} (h:l.length≤1000000000):QbM k j r e l=some (l++prob k j r e):=by
 unfold QbM prob
 by_cases he:e=0
 ·rw[if_neg (by simp[he]),if_pos he,List.append_nil];rfl
 ·rw[if_pos (by simpa using he),if_neg he,Qg8 (by rw[List.length_singleton];omega)];rfl
def QsP (x:Qg) (i:Nat) (l:Qn):Int:=Qbk [⟨(x.Lives.take i).any fun m=>m.Name==l.Name,7⟩]
def Qnz (x:Qg) (q:Qj) (k j:Int) (f:Qb):Int:=if Qav q f.Name<j then 7 else QjR x q k j f
def Qha (x:Qg) (i:Nat):List Qt:=match x.Lives[i]? with | some l=>prob (-1) (i:Int) (-1) (QsP x i l) | none=>[]
def Qh7 (x:Qg) (i:Nat) (q:Qj) (j:Nat):List Qt:=match q.Fields[j]? with | some f=>prob (i:Int) (j:Int) (-1) (Qnz x q (i:Int) (j:Int) f) | none=>[]
def QlX (x:Qg) (i:Nat) (q:Qj):List Qt:=(List.range q.Fields.length).flatMap (Qh7 x i q)
def Qhb (x:Qg) (i:Nat):List Qt:=match x.Kinds[i]? with | some q=>prob (i:Int) (-1) (-1) (Qks x (i:Int) q)++QlX x i q | none=>[]
def Qlh (x:Qg) (i:Nat):List Qt:=match x.Rules[i]? with | some r=>prob (-1) (-1) (i:Int) (Qpp x i r) | none=>[]
def Qer (x:Qg):List Qt:=(List.range x.Lives.length).flatMap (Qha x)
def Qhw (x:Qg):List Qt:=(List.range x.Kinds.length).flatMap (Qhb x)
def Qt9 (x:Qg):List Qt:=(List.range x.Rules.length).flatMap (Qlh x)
theorem Qli (x:Qg) (i:Nat):(Qha x i).length≤1:=by unfold Qha;cases x.Lives[i]? with | none=>simp | some f=>exact Qij _ _ _ _
theorem QmD (x:Qg) (i:Nat) (q:Qj) (j:Nat):(Qh7 x i q j).length≤1:=by unfold Qh7;cases q.Fields[j]? with | none=>simp | some f=>exact Qij _ _ _ _
theorem Qqw (x:Qg) (i:Nat):(Qlh x i).length≤1:=by unfold Qlh;cases x.Rules[i]? with | none=>simp | some f=>exact Qij _ _ _ _
/-- All problems. -/
def QcT (x:Qg):List Qt:=if QgO x=0 then Qer x++Qhw x++Qt9 x else [⟨-1,-1,-1,QgO x⟩]
theorem QdY {β:Type} (n:Nat) (g:Nat→List β) (B:Nat) (hB:∀k,k<n→(g k).length≤B):((List.range n).flatMap g).length≤n * B:=by
 induction n with
 | zero=>simp
 | succ n ih=>
  rw[List.range_succ,List.flatMap_append,List.length_append,Nat.succ_mul]
  have h1:=ih fun k hk=>hB k (by omega)
  have h2:=hB n (by omega)
  simp only[List.flatMap_cons,List.flatMap_nil,List.append_nil]
  omega
/-- What Check needs of a schema: its lists are short. -/
structure Qkt (x:Qg):Prop where
 few:Few x
 fine:Fine x
 lives:x.Lives.length≤1000
 rules:x.Rules.length≤1000
theorem Sz.short {x:Qg} (h:Sz x):Qkt x:=⟨h.few,h.fine,by have:=h.2.1.1;omega,by have:=h.2.2.1;omega⟩
theorem Qn9 {x:Qg} {i:Nat} {q:Qj} (h:q.Fields.length≤1000):(QlX x i q).length≤1000:=by
 have:=QdY q.Fields.length (Qh7 x i q) 1 (fun j _=>QmD x i q j)
 unfold QlX;omega
theorem Qu8 {x:Qg} (h:Qkt x):Qed x=some (QcT x):=by
 obtain⟨hx,hfine,hlv,hrl⟩:=h
 unfold Qed
 rw[Qu5 hfine]
 simp only[Option.bind_some]
 unfold QcT
 by_cases hv:QgO x=0
 ·rw[if_neg (by simp[hv]),if_pos hv]
  have b1:(Qer x).length≤1000:=by
   have:=QdY x.Lives.length (Qha x) 1 (fun j _=>Qli x j)
   unfold Qer;omega
  have kl:∀k,k<x.Kinds.length→(Qhb x k).length≤1001:=fun k hk=>by
   unfold Qhb
   rw[List.getElem?_eq_getElem hk]
   dsimp only
   have:=Qn9 (x:=x) (i:=k) (hx.2 _ (List.getElem_mem hk))
   have:=Qij k (-1) (-1) (Qks x k x.Kinds[k])
   rw[List.length_append];omega
  have b2:(Qhw x).length≤1001000:=by
   have:=QdY x.Kinds.length _ 1001 kl
   have:=hx.1
   unfold Qhw;omega
  have hk1:=hx.1
  rw[Qhv x.Lives.length (Qha x) 1 (fun j _=>Qli x j) [] (fun k hk acc hacc=>?_) (fun acc=>if_neg (by simp))]
  ·rw[show ([]:List Qt)++(List.range x.Lives.length).flatMap (Qha x)=Qer x from rfl]
   simp only[Option.bind_some]
   rw[Qhv x.Kinds.length (Qhb x) 1001 kl (Qer x) (fun k hk acc hacc=>?_) (fun acc=>if_neg (by simp))]
   ·rw[show Qer x++(List.range x.Kinds.length).flatMap (Qhb x)=Qer x++Qhw x from rfl]
    simp only[Option.bind_some]
    rw[Qhv x.Rules.length (Qlh x) 1 (fun j _=>Qqw x j) (Qer x++Qhw x) (fun k hk acc hacc=>?_) (fun acc=>if_neg (by simp))]
    ·rfl
    ·rw[List.length_append] at hacc
     rw[if_pos (by simpa using hk)]
     dsimp only
     rw[Qxb hx hrl hk (List.getElem?_eq_getElem hk)]
     simp only[Option.bind_some]
     rw[Qpq (by omega)]
     simp only[Option.bind_some]
     unfold Qlh
     rw[Q1 hk (by omega),List.getElem?_eq_getElem hk]
   ·have hq:=Qaa hk
    have hqf:=hx.2 _ (List.getElem_mem hk)
    rw[if_pos (by simpa using hk)]
    dsimp only
    rw[hq]
    simp only[Option.bind_some]
    rw[Qxa hx hq]
    simp only[Option.bind_some]
    rw[Qpq (by omega)]
    simp only[Option.bind_some]
    have pl:=Qij k (-1) (-1) (Qks x k x.Kinds[k])
    rw[Qhv x.Kinds[k].Fields.length (Qh7 x k x.Kinds[k]) 1 (fun j _=>QmD x k _ j) _ (fun j hj acc2 hacc2=>?_) (fun acc=>if_neg (by simp))]
    ·simp only[Option.bind_some]
     unfold Qhb
     rw[Q1 hk (by omega),List.getElem?_eq_getElem hk,List.append_assoc]
     rfl
    ·rw[List.length_append] at hacc2
     rw[if_pos (by simpa using hj)]
     dsimp only
     rw[Qaa hj]
     simp only[Option.bind_some]
     rw[Qfw (by omega)]
     simp only[Option.bind_some]
     rw[Qii (by simp)]
     simp only[Option.bind_some]
     have hf:field? x (k:Int) (j:Int)=some x.Kinds[k].Fields[j]:=Qhs (by omega) (by omega) hq (Qaa hj)
     have e:(if ((Qbx x.Kinds[k].Fields[j].Kind).isSome&&(Qbk [⟨decide (Qav x.Kinds[k] x.Kinds[k].Fields[j].Name<(j:Int)),7⟩]==0))=true then (Ql9 (Qcy.mk (Qbx x.Kinds[k].Fields[j].Kind)).check ⟨x,k,j,x.Kinds[k].Fields[j]⟩).bind fun t97=>some t97 else some (Qbk [⟨decide (Qav x.Kinds[k] x.Kinds[k].Fields[j].Name<(j:Int)),7⟩]))=some (Qnz x x.Kinds[k] k j x.Kinds[k].Fields[j]):=by
      unfold Qnz
      by_cases hd:Qav x.Kinds[k] x.Kinds[k].Fields[j].Name<(j:Int)
      ·rw[if_pos hd,if_neg (by simp[Qbk,hd])]
       simp[Qbk,hd]
      ·rw[if_neg hd]
       have e0:Qbk [⟨decide (Qav x.Kinds[k] x.Kinds[k].Fields[j].Name<(j:Int)),7⟩]=0:=by simp[Qbk,hd]
       rw[e0]
       cases hs:(Qbx x.Kinds[k].Fields[j].Kind).isSome with
       | true=>rw[if_pos (by simp),Qu6 hx hlv hq hf hs];rfl
       | false=>rw[if_neg (by simp),Qu7 hs]
     rw[e]
     simp only[Option.bind_some]
     rw[Qpq (by omega)]
     simp only[Option.bind_some]
     unfold Qh7
     rw[Q1 hj (by omega),List.getElem?_eq_getElem hj]
  ·rw[List.length_nil] at hacc
   rw[if_pos (by simpa using hk)]
   dsimp only
   rw[Qaa hk]
   simp only[Option.bind_some]
   have hs:Sim.sub x.Lives 0 (k:Int)=some (x.Lives.take k):=by
    unfold Sim.sub
    rw[if_pos ⟨by decide,by omega,by omega⟩];simp
   rw[hs]
   simp only[Option.bind_some]
   rw[QkX (f:=fun x0=>Qd3 x0 x.Lives[k]) (p:=fun m=>m.Name==x.Lives[k].Name) (by rw[List.length_take];omega) (fun l _=>rfl)]
   simp only[Option.bind_some]
   rw[Qii (by simp)]
   simp only[Option.bind_some]
   rw[Qpq (by omega)]
   simp only[Option.bind_some]
   unfold Qha
   rw[Q1 hk (by omega),List.getElem?_eq_getElem hk]
   rfl
 ·rw[if_pos (by simpa using hv),if_neg hv]

end Go.Proofs.YtcdccjagknlmpaaGreatDoor

namespace Go.Proofs.YtcdccjagknlmpaaGreatDoor
open Go.Sim

theorem out_or (n:Nat):((decide ((n:Int)<1))||(decide ((n:Int)>12)))=!inW (n:Int) 1 12:=by
 unfold inW
 by_cases h1:(n:Int)<1
 ·rw[decide_eq_true h1,decide_eq_false (by omega:¬(n:Int)≥1)];rfl
 ·rw[decide_eq_false h1,decide_eq_true (by omega:(n:Int)≥1)]
  by_cases h2:(n:Int)>12
  ·rw[decide_eq_true h2,decide_eq_false (by omega:¬(n:Int)≤12)];rfl
  ·rw[decide_eq_false h2,decide_eq_true (by omega:(n:Int)≤12)];rfl
theorem Qj4 (s:Str):Qbg s=some (Qad s):=by
 unfold Qbg Qad
 rw[out_or]
 cases s with
 | nil=>rfl
 | cons c s=>
  cases h:inW ((c::s).length:Int) 1 12 with
  | false=>rfl
  | true=>
   have hl:=(Qdn h).2
   rw[show idx (c::s) (0:Int)=some c from rfl]
   simp only[Sim.opt,Bool.not_true,beq_self_eq_true,if_true,Option.bind_some]
   rw[show Qfh (c.toNat:Int)=some (QdK (c.toNat:Int)) from rfl]
   simp only[Option.bind_some]
   cases hc:QdK (c.toNat:Int) with
   | false=>simp[hc]
   | true=>
    rw[if_neg (by decide),Qeg (c::s) (fun b=>QdK (b.toNat:Int)||QiY (b.toNat:Int)) false (fun k hk=>?_) (if_neg (by simp))]
    ·have e:(Q5 (c::s)).all (fun c=>QdK c||QiY c)=(c::s).all (fun b=>QdK (b.toNat:Int)||QiY (b.toNat:Int)):=by
      unfold Q5;rw[List.all_map];rfl
     rw[e]
     simp only[List.headD_cons,hc,Bool.true_and,Option.bind_some]
     cases (c::s).all (fun b=>QdK (b.toNat:Int)||QiY (b.toNat:Int))<;>rfl
    ·rw[if_pos (decide_eq_true (Int.ofNat_lt.2 hk)),Qaa hk]
     simp only[Option.bind_some]
     rw[show Qfh (((c::s)[k]).toNat:Int)=some (QdK (((c::s)[k]).toNat:Int)) from rfl]
     simp only[Option.bind_some]
     rw[Q1 hk (by omega)]
     cases QdK (((c::s)[k]).toNat:Int) with
     | true=>rfl
     | false=>
      simp only[Bool.not_false,beq_self_eq_true,if_true,Option.bind_some,Bool.true_and,Bool.false_or]
      rw[show QiS (((c::s)[k]).toNat:Int)=some (QiY (((c::s)[k]).toNat:Int)) from rfl]
      simp only[Option.bind_some]
      cases QiY (((c::s)[k]).toNat:Int)<;>rfl
theorem QrA {l:List Str} (hl:l.length≤1000000):QfU l=some (l.all Qad):=by
 unfold QfU
 rw[Qeg l Qad false (fun k hk=>?_) (if_neg (by simp))]
 ·cases l.all Qad<;>rfl
 ·rw[if_pos (by simpa using hk),Qaa hk]
  simp only[Option.bind_some]
  rw[Qj4]
  simp only[Option.bind_some]
  rw[Q1 hk (by omega)]
  cases Qad l[k]<;>rfl

end Go.Proofs.YtcdccjagknlmpaaGreatDoor

namespace Go.Proofs.YtcdccjagknlmpaaGreatDoor
open Go.Sim

theorem Qu9 {x:Qn} (h1:x.States.length≤1000000) (h2:x.Moves.length≤1000000):QgI x=some (Qgl x):=by
 unfold QgI Qgl
 rw[Qj4]
 simp only[Option.bind_some]
 cases Qad x.Name with
 | false=>rfl
 | true=>
  rw[show QaY (x.States.length:Int) 1 12=some (inW (x.States.length:Int) 1 12) from rfl]
  simp only[Sim.opt,Bool.not_true,beq_self_eq_true,if_true,Option.bind_some,Bool.true_and,Bool.false_or]
  cases inW (x.States.length:Int) 1 12 with
  | false=>rfl
  | true=>
   rw[QrA h1]
   simp only[Bool.not_true,beq_self_eq_true,if_true,Option.bind_some,Bool.true_and,Bool.false_or]
   cases x.States.all Qad with
   | false=>rfl
   | true=>
    by_cases hm:(x.Moves.length:Int)≤32
    ·rw[if_neg (by simp;omega),decide_eq_true hm,Qeg x.Moves (QjO (x.States.length:Int)) false (fun k hk=>?_) (if_neg (by simp))]
     ·simp only[Bool.true_and,Option.bind_some]
      cases x.Moves.all (QjO (x.States.length:Int))<;>rfl
     ·rw[if_pos (decide_eq_true (Int.ofNat_lt.2 hk)),Qaa hk,w64 (n:=(x.States.length:Int) - 1) (by omega) (by omega)]
      simp only[Option.bind_some]
      rw[show QaY x.Moves[k].a0 0 ((x.States.length:Int) - 1)=some (inW x.Moves[k].a0 0 ((x.States.length:Int) - 1)) from rfl]
      simp only[Option.bind_some]
      rw[Q1 hk (by omega)]
      unfold QjO
      cases inW x.Moves[k].a0 0 ((x.States.length:Int) - 1) with
      | false=>rfl
      | true=>
       simp only[Bool.not_true,beq_self_eq_true,if_true,Option.bind_some,Bool.true_and,Bool.false_or]
       rw[show QaY x.Moves[k].a1 0 ((x.States.length:Int) - 1)=some (inW x.Moves[k].a1 0 ((x.States.length:Int) - 1)) from rfl]
       simp only[Option.bind_some]
       cases inW x.Moves[k].a1 0 ((x.States.length:Int) - 1)<;>rfl
    ·rw[if_pos (by simp;omega),decide_eq_false hm];rfl
theorem Qva (r:Qm):QgJ r=some (Qgm r):=by
 unfold QgJ Qgm
 simp only[Qj4]
 rw[show QaY r.N (-1048576) 1048576=some (inW r.N (-1048576) 1048576) from rfl]
 have ne:∀s:Str,(s !=([]:Str))=!(s==[]):=fun s=>rfl
 have ap:∀a b:Str,((a++b) !=([]:Str))=!((a==[])&&(b==[])):=fun a b=>by cases a<;>cases b<;>rfl
 rw[ne,ne,ap]
 cases (r.A==[])<;>cases (r.B==[])<;>cases Qad r.A<;>cases Qad r.B<;>cases Qad r.Name<;>cases Qad r.Kind<;>rfl

end Go.Proofs.YtcdccjagknlmpaaGreatDoor

namespace Go.Proofs.YtcdccjagknlmpaaGreatDoor
open Go.Sim

theorem Qvb {f:Qb} (hw:f.Words.length≤1000000) (hg:f.Weights.length≤1000000):QgG f=some (Qkr f.Words f.Weights):=by
 rw[←Qqs hw hg]
 unfold QgG Qcr
 have e:(fun s5:Int×Int=>((if (decide (s5.1<(f.Weights.length:Int)))=true then (idx f.Weights s5.1).bind fun t15=>(QaY t15 (0:Int) (1048576:Int)).bind fun t17=>(if (!t17)=true then (some (.inr (.inr false))) else (idx f.Weights s5.1).bind fun t23=>(some (.inl ((IntKind.i64.wrap (s5.1+(1:Int))),(IntKind.i64.wrap (s5.2+t23)))))) else (some (.inr (.inl s5.2)))):Option ((Int×Int)⊕((Int)⊕(Bool)))))=
   fun s5:Int×Int=>((if (decide (s5.1<(f.Weights.length:Int)))=true then (idx f.Weights s5.1).bind fun t12=>(Qa4 t12 (0:Int) (1048576:Int)).bind fun t15=>(if (!t15)=true then (some (.inr (.inr false))) else (some (.inl ((IntKind.i64.wrap (s5.1+(1:Int))),(IntKind.i64.wrap (s5.2+t12)))))) else (some (.inr (.inl s5.2)))):Option ((Int×Int)⊕((Int)⊕(Bool)))):=by
  funext s
  split
  ·cases hi:idx f.Weights s.1 with
   | none=>rfl
   | some v=>rfl
  ·rfl
 rw[e]
 congr 1
 funext o
 cases o with
 | inr p=>rfl
 | inl p=>
  dsimp only
  rw[QrA hw,Qnw (p:=Qad) hw (fun s _=>Qf9 s)]
  rfl

end Go.Proofs.YtcdccjagknlmpaaGreatDoor

namespace Go.Proofs.YtcdccjagknlmpaaGreatDoor
open Go.Sim

theorem Qxc {w:List Str} {g:List Int} (hw:w.length≤1000000) (hg:g.length≤1000000):decide (IntKind.i64.wrap ((w.length:Int)+(g.length:Int))>0)=!(decide (w=[])&&decide (g=[])):=by
 rw[w64 (by omega) (by omega)]
 cases w with
 | nil=>cases g with
  | nil=>rfl
  | cons b g=>simp
 | cons a w=>simp;omega
theorem Qua {f:Qb} (hw:f.Words.length≤1000000) (hg:f.Weights.length≤1000000):QfV f=some (QaX f):=by
 have e1:=Qxc hw hg
 have hp:=Qvb hw hg
 unfold QfV
 rw[e1,hp]
 clear e1 hp hw hg
 obtain⟨n,o,u,k,lo,hi,w,g⟩:=f
 simp only[QbO,Qj4,Option.bind_some]
 have ne:∀s:Str,(s !=([]:Str))=!(s==[]):=fun s=>rfl
 have ni:∀a:Int,(a !=0)=!(a==0):=fun a=>rfl
 by_cases k0:k=0
 ·subst k0
  have e:QaX ⟨n,o,u,0,lo,hi,w,g⟩=((Qad n&&(((((o==[])&&(u==[]))&&(hi==0))&&decide (w=[]))&&decide (g=[])))&&inW lo (-1048576) 1048576):=by
   unfold QaX QhP QhO Qgk
   simp
  rw[e]
  simp only[ne,ni]
  cases Qad n<;>cases (o==[])<;>cases (u==[])<;>cases (hi==0)<;>cases decide (w=[])<;>cases decide (g=[])<;>rfl
 by_cases k1:k=1
 ·subst k1
  have e:QaX ⟨n,o,u,1,lo,hi,w,g⟩=((Qad n&&(((u==[])&&decide (w=[]))&&decide (g=[])))&&(Qad o&&Qfx lo hi 0 65536)):=by
   unfold QaX QhP QhO Qgk
   simp
  rw[e]
  simp only[ne,ni]
  cases Qad n<;>cases (u==[])<;>cases decide (w=[])<;>cases decide (g=[])<;>cases Qad o<;>rfl
 by_cases k2:k=2
 ·subst k2
  have e:QaX ⟨n,o,u,2,lo,hi,w,g⟩=((Qad n&&((((o==[])&&(u==[]))&&decide (w=[]))&&decide (g=[])))&&Qfx lo hi (-1048576) 1048576):=by
   unfold QaX QhP QhO Qgk
   simp
  rw[e]
  simp only[ne,ni]
  cases Qad n<;>cases (o==[])<;>cases (u==[])<;>cases decide (w=[])<;>cases decide (g=[])<;>rfl
 by_cases k3:k=3
 ·subst k3
  have e:QaX ⟨n,o,u,3,lo,hi,w,g⟩=((Qad n&&((((o==[])&&(u==[]))&&(lo==0))&&(hi==0)))&&Qkr w g):=by
   unfold QaX QhP QhO Qgk
   simp
  rw[e]
  simp only[ne,ni]
  cases Qad n<;>cases (o==[])<;>cases (u==[])<;>cases (lo==0)<;>cases (hi==0)<;>rfl
 by_cases k4:k=4
 ·subst k4
  have e:QaX ⟨n,o,u,4,lo,hi,w,g⟩=((Qad n&&(((u==[])&&decide (w=[]))&&decide (g=[])))&&(((o==[])||Qad o)&&Qfx lo hi (-1048576) 1048576)):=by
   unfold QaX QhP QhO Qgk
   simp
  rw[e]
  simp only[ne,ni]
  cases Qad n<;>cases (u==[])<;>cases decide (w=[])<;>cases decide (g=[])<;>cases Qad o<;>cases (o==[])<;>rfl
 by_cases k5:k=5
 ·subst k5
  have e:QaX ⟨n,o,u,5,lo,hi,w,g⟩=((Qad n&&(((u==[])&&decide (w=[]))&&decide (g=[])))&&(Qad o&&Qfx lo hi 0 32)):=by
   unfold QaX QhP QhO Qgk
   simp
  rw[e]
  simp only[ne,ni]
  cases Qad n<;>cases (u==[])<;>cases decide (w=[])<;>cases decide (g=[])<;>cases Qad o<;>rfl
 by_cases k6:k=6
 ·subst k6
  have e:QaX ⟨n,o,u,6,lo,hi,w,g⟩=((Qad n&&(((((u==[])&&(lo==0))&&(hi==0))&&decide (w=[]))&&decide (g=[])))&&Qad o):=by
   unfold QaX QhP QhO Qgk
   simp
  rw[e]
  simp only[ne,ni]
  cases Qad n<;>cases (u==[])<;>cases (lo==0)<;>cases (hi==0)<;>cases decide (w=[])<;>cases decide (g=[])<;>cases Qad o<;>rfl
 by_cases k7:k=7
 ·subst k7
  have e:QaX ⟨n,o,u,7,lo,hi,w,g⟩=((Qad n&&(decide (w=[])&&decide (g=[])))&&((Qad o&&Qad u)&&Qfx lo hi 0 1048576)):=by
   unfold QaX QhP QhO Qgk
   simp
  rw[e]
  simp only[ne,ni]
  cases Qad n<;>cases decide (w=[])<;>cases decide (g=[])<;>cases Qad o<;>cases Qad u<;>rfl
 by_cases k8:k=8
 ·subst k8
  have e:QaX ⟨n,o,u,8,lo,hi,w,g⟩=((Qad n&&((((lo==0)&&(hi==0))&&decide (w=[]))&&decide (g=[])))&&(Qad o&&Qad u)):=by
   unfold QaX QhP QhO Qgk
   simp
  rw[e]
  simp only[ne,ni]
  cases Qad n<;>cases (lo==0)<;>cases (hi==0)<;>cases decide (w=[])<;>cases decide (g=[])<;>cases Qad o<;>cases Qad u<;>rfl
 have hr:((decide (k<0))||(decide (k≥9)))=true:=by simp;omega
 have e:QaX ⟨n,o,u,k,lo,hi,w,g⟩=false:=by
  unfold QaX Qgk
  simp[k0,k1,k2,k3,k4,k5,k6,k7,k8]
 rw[e,hr]
 rfl

end Go.Proofs.YtcdccjagknlmpaaGreatDoor

namespace Go.Proofs.YtcdccjagknlmpaaGreatDoor
open Go.Sim

theorem Qvc {k:Qj} (h:Qnx k.Fields):QgH k=some (Qd7 k):=by
 unfold QgH Qd7
 rw[Qj4]
 simp only[Option.bind_some]
 cases Qad k.Name with
 | false=>rfl
 | true=>
  rw[show QdO k.Lo k.Hi 0 65536=some (Qfx k.Lo k.Hi 0 65536) from rfl]
  simp only[Sim.opt,Bool.not_true,beq_self_eq_true,if_true,Option.bind_some,Bool.true_and,Bool.false_or]
  cases Qfx k.Lo k.Hi 0 65536 with
  | false=>rfl
  | true=>
   by_cases hm:(k.Fields.length:Int)≤10
   ·rw[if_neg (by simp;omega),decide_eq_true hm,Qeg k.Fields QaX false (fun i hi=>?_) (if_neg (by simp))]
    ·simp only[Bool.true_and,Option.bind_some]
     cases k.Fields.all QaX<;>rfl
    ·have hf:=h.2 _ (List.getElem_mem hi)
     have hl:=h.1
     rw[if_pos (decide_eq_true (Int.ofNat_lt.2 hi)),Qaa hi]
     simp only[Option.bind_some]
     rw[Qua hf.1 hf.2]
     simp only[Option.bind_some]
     rw[Q1 hi (by omega)]
     cases QaX k.Fields[i]<;>rfl
   ·rw[if_pos (by simp;omega),decide_eq_false hm];rfl

end Go.Proofs.YtcdccjagknlmpaaGreatDoor

namespace Go.Proofs.YtcdccjagknlmpaaGreatDoor
open Go.Sim

theorem QrB {u:Nat} (h:u<10):Qko [IntKind.u8.wrap (IntKind.i64.wrap ((48:Int)+(u:Int)))]=[UInt8.ofNat (48+u)]:=by
 have:u=0∨u=1∨u=2∨u=3∨u=4∨u=5∨u=6∨u=7∨u=8∨u=9:=by omega
 rcases this with rfl | rfl | rfl | rfl | rfl | rfl | rfl | rfl | rfl | rfl<;>rfl
theorem decN:∀(k u:Nat),k≤1000000000000→u<10 ^ (k+1)→u≤1000000000→Qd6 (k+1) (u:Int)=some (Lib.decDigits u)
 | k,u,hk,hu,hb=>by
  show Qdj (Qd6 k) (u:Int)=_
  unfold Qdj
  rw[if_neg (by simp)]
  rw[Lib.decDigits]
  by_cases h:u<10
  ·rw[if_pos (by simp;omega),dif_pos h,QrB h]
  ·rw[if_neg (by simp;omega),dif_neg h]
   cases k with
   | zero=>simp at hu;omega
   | succ k=>
    have e1:IntKind.i64.wrap (Int.tdiv (u:Int) 10)=((u / 10:Nat):Int):=by
     rw[Int.tdiv_eq_ediv_of_nonneg (by omega),w64 (by omega) (by omega)];rfl
    have e2:Int.tmod (u:Int) 10=((u % 10:Nat):Int):=by rw[Int.tmod_eq_emod_of_nonneg (by omega)];rfl
    rw[e1,e2,decN k (u / 10) (by omega) (by rw[Nat.pow_succ] at hu;omega) (by omega)]
    simp only[Option.bind_some]
    rw[QrB (by omega)]
    have hl:=QiZ 18 (u / 10) (by omega)
    have ec:cat ((Lib.decDigits (u / 10)).length+([UInt8.ofNat (48+u % 10)]:Str).length)=some ():=if_pos (by rw[List.length_singleton];omega)
    rw[ec];rfl

theorem Qpr (u:Nat):u<10 ^ (u+1):=by
 have h:u+1<10 ^ (u+1):=Nat.lt_pow_self (by decide)
 omega
theorem QsQ {n:Int} (h:-1000000000≤n∧n≤1000000000):QhM n=some (Lib.itoa n):=by
 unfold QhM Lib.itoa
 by_cases hn:n<0
 ·show Qdj (Qd6 (n.natAbs+1)) n=_
  unfold Qdj
  have e:IntKind.i64.wrap (0 - n)=(n.natAbs:Int):=by rw[w64 (by omega) (by omega)];omega
  rw[if_pos (decide_eq_true hn),if_pos hn,e,decN n.natAbs n.natAbs (by omega) (Qpr _) (by omega)]
  simp only[Option.bind_some]
  have hl:=QiZ 18 n.natAbs (by omega)
  have ec:cat (([45]:Str).length+(Lib.decDigits n.natAbs).length)=some ():=if_pos (by rw[List.length_singleton];omega)
  rw[ec];rfl
 ·rw[if_neg hn]
  have e:n=(n.toNat:Int):=by omega
  have e2:n.natAbs+2=(n.natAbs+1)+1:=rfl
  rw[e2]
  have:=decN (n.natAbs+1) n.toNat (by omega) (Nat.lt_of_lt_of_le (Qpr n.toNat) (Nat.pow_le_pow_right (by decide) (by omega))) (by omega)
  rw[←e] at this
  exact this

end Go.Proofs.YtcdccjagknlmpaaGreatDoor

namespace Go.Proofs.YtcdccjagknlmpaaGreatDoor
open Go.Sim

theorem Qaj {n:Nat} (h:n≤1000000000000):cat n=some ():=if_pos (by omega)
theorem Qda {s:Str} {n:Int} (hs:s.length≤100000000000) (h:-1000000000≤n∧n≤1000000000):QbD s n=some (s++(32::Lib.itoa n)):=by
 have hl:=QcC (n:=n) (by unfold I64;omega)
 unfold QbD
 rw[Qaj (by rw[List.length_singleton];omega)]
 simp only[Option.bind_some]
 rw[QsQ h]
 simp only[Option.bind_some]
 rw[Qaj (by rw[List.length_append,List.length_singleton];omega)]
 simp
theorem Qgb (s:Str):QeO s=some (Qbe s):=by
 unfold QeO Qbe
 by_cases h:s=[]
 ·rw[if_pos (by simp[h]),if_pos h]
 ·rw[if_neg (by simpa using h),if_neg h]

end Go.Proofs.YtcdccjagknlmpaaGreatDoor

namespace Go.Proofs.YtcdccjagknlmpaaGreatDoor
open Go.Sim

/-- A valid field whose names are not empty where they must not be. -/
theorem QmE {s:Str} (h:Qad s=true):Qbe s=s:=by
 unfold Qbe
 rw[if_neg]
 rintro rfl
 cases h
theorem rLine0 {n o u:Str} {lo hi:Int} {w:List Str} {g:List Int} (hn:n.length≤12) (hlo:-1000000000≤lo∧lo≤1000000000):QaG ⟨n,o,u,0,lo,hi,w,g⟩=some (10::([107,101,121]++toks [.str n,.int lo])):=by
 unfold QaG QbO QbX
 simp only[Option.bind_some]
 rw[show idx ([([107,101,121]:Str),([114,101,102]:Str),([110,117,109]:Str),([112,105,99,107]:Str),([100,97,121]:Str),([115,116,101,112]:Str),([115,117,109]:Str),([115,104,97,114,101]:Str),([99,111,112,121]:Str)]) (0:Int)=some [107,101,121] from rfl]
 simp only[Option.bind_some]
 rw[Qaj (by simp),Qaj (by simp only[List.length_append,List.length_cons,List.length_nil];omega),Qaj (by simp only[List.length_append,List.length_cons,List.length_nil];omega)]
 simp only[Option.bind_some]
 rw[if_neg (by decide)]
 simp only[Option.bind_some]
 rw[if_neg (by decide)]
 simp only[Option.bind_some]
 have l1:=QcC (n:=lo) (by unfold I64;omega)
 rw[if_pos (by decide),Qda (by simp only[List.length_append,List.length_cons,List.length_nil];omega) hlo]
 simp only[Option.bind_some]
 rw[if_neg (by decide)]
 simp only[Option.bind_some]
 rw[if_neg (by decide)]
 simp[toks,Qd8]
theorem rLine1 {n o u:Str} {lo hi:Int} {w:List Str} {g:List Int} (hn:n.length≤12) (ho:(Qbe o).length≤12) (hlo:-1000000000≤lo∧lo≤1000000000) (hhi:-1000000000≤hi∧hi≤1000000000):QaG ⟨n,o,u,1,lo,hi,w,g⟩=some (10::([114,101,102]++toks [.str n,.str (Qbe o),.int lo,.int hi])):=by
 unfold QaG QbO QbX
 simp only[Option.bind_some]
 rw[show idx ([([107,101,121]:Str),([114,101,102]:Str),([110,117,109]:Str),([112,105,99,107]:Str),([100,97,121]:Str),([115,116,101,112]:Str),([115,117,109]:Str),([115,104,97,114,101]:Str),([99,111,112,121]:Str)]) (1:Int)=some [114,101,102] from rfl]
 simp only[Option.bind_some]
 rw[Qaj (by simp),Qaj (by simp only[List.length_append,List.length_cons,List.length_nil];omega),Qaj (by simp only[List.length_append,List.length_cons,List.length_nil];omega)]
 simp only[Option.bind_some]
 rw[if_neg (by decide)]
 simp only[Option.bind_some]
 rw[if_pos (by decide),Qaj (by simp only[List.length_append,List.length_cons,List.length_nil];omega),Qgb]
 simp only[Option.bind_some]
 rw[Qaj (by simp only[List.length_append,List.length_cons,List.length_nil];omega)]
 simp only[Option.bind_some]
 have l1:=QcC (n:=lo) (by unfold I64;omega)
 rw[if_pos (by decide),Qda (by simp only[List.length_append,List.length_cons,List.length_nil];omega) hlo]
 simp only[Option.bind_some]
 rw[if_pos (by decide),Qda (by simp only[List.length_append,List.length_cons,List.length_nil];omega) hhi]
 simp only[Option.bind_some]
 rw[if_neg (by decide)]
 simp[toks,Qd8]
theorem rLine2 {n o u:Str} {lo hi:Int} {w:List Str} {g:List Int} (hn:n.length≤12) (hlo:-1000000000≤lo∧lo≤1000000000) (hhi:-1000000000≤hi∧hi≤1000000000):QaG ⟨n,o,u,2,lo,hi,w,g⟩=some (10::([110,117,109]++toks [.str n,.int lo,.int hi])):=by
 unfold QaG QbO QbX
 simp only[Option.bind_some]
 rw[show idx ([([107,101,121]:Str),([114,101,102]:Str),([110,117,109]:Str),([112,105,99,107]:Str),([100,97,121]:Str),([115,116,101,112]:Str),([115,117,109]:Str),([115,104,97,114,101]:Str),([99,111,112,121]:Str)]) (2:Int)=some [110,117,109] from rfl]
 simp only[Option.bind_some]
 rw[Qaj (by simp),Qaj (by simp only[List.length_append,List.length_cons,List.length_nil];omega),Qaj (by simp only[List.length_append,List.length_cons,List.length_nil];omega)]
 simp only[Option.bind_some]
 rw[if_neg (by decide)]
 simp only[Option.bind_some]
 rw[if_neg (by decide)]
 simp only[Option.bind_some]
 have l1:=QcC (n:=lo) (by unfold I64;omega)
 rw[if_pos (by decide),Qda (by simp only[List.length_append,List.length_cons,List.length_nil];omega) hlo]
 simp only[Option.bind_some]
 rw[if_pos (by decide),Qda (by simp only[List.length_append,List.length_cons,List.length_nil];omega) hhi]
 simp only[Option.bind_some]
 rw[if_neg (by decide)]
 simp[toks,Qd8]
theorem rLine4 {n o u:Str} {lo hi:Int} {w:List Str} {g:List Int} (hn:n.length≤12) (ho:(Qbe o).length≤12) (hlo:-1000000000≤lo∧lo≤1000000000) (hhi:-1000000000≤hi∧hi≤1000000000):QaG ⟨n,o,u,4,lo,hi,w,g⟩=some (10::([100,97,121]++toks [.str n,.str (Qbe o),.int lo,.int hi])):=by
 unfold QaG QbO QbX
 simp only[Option.bind_some]
 rw[show idx ([([107,101,121]:Str),([114,101,102]:Str),([110,117,109]:Str),([112,105,99,107]:Str),([100,97,121]:Str),([115,116,101,112]:Str),([115,117,109]:Str),([115,104,97,114,101]:Str),([99,111,112,121]:Str)]) (4:Int)=some [100,97,121] from rfl]
 simp only[Option.bind_some]
 rw[Qaj (by simp),Qaj (by simp only[List.length_append,List.length_cons,List.length_nil];omega),Qaj (by simp only[List.length_append,List.length_cons,List.length_nil];omega)]
 simp only[Option.bind_some]
 rw[if_neg (by decide)]
 simp only[Option.bind_some]
 rw[if_pos (by decide),Qaj (by simp only[List.length_append,List.length_cons,List.length_nil];omega),Qgb]
 simp only[Option.bind_some]
 rw[Qaj (by simp only[List.length_append,List.length_cons,List.length_nil];omega)]
 simp only[Option.bind_some]
 have l1:=QcC (n:=lo) (by unfold I64;omega)
 rw[if_pos (by decide),Qda (by simp only[List.length_append,List.length_cons,List.length_nil];omega) hlo]
 simp only[Option.bind_some]
 rw[if_pos (by decide),Qda (by simp only[List.length_append,List.length_cons,List.length_nil];omega) hhi]
 simp only[Option.bind_some]
 rw[if_neg (by decide)]
 simp[toks,Qd8]
theorem rLine5 {n o u:Str} {lo hi:Int} {w:List Str} {g:List Int} (hn:n.length≤12) (ho:(Qbe o).length≤12) (hlo:-1000000000≤lo∧lo≤1000000000) (hhi:-1000000000≤hi∧hi≤1000000000):QaG ⟨n,o,u,5,lo,hi,w,g⟩=some (10::([115,116,101,112]++toks [.str n,.str (Qbe o),.int lo,.int hi])):=by
 unfold QaG QbO QbX
 simp only[Option.bind_some]
 rw[show idx ([([107,101,121]:Str),([114,101,102]:Str),([110,117,109]:Str),([112,105,99,107]:Str),([100,97,121]:Str),([115,116,101,112]:Str),([115,117,109]:Str),([115,104,97,114,101]:Str),([99,111,112,121]:Str)]) (5:Int)=some [115,116,101,112] from rfl]
 simp only[Option.bind_some]
 rw[Qaj (by simp),Qaj (by simp only[List.length_append,List.length_cons,List.length_nil];omega),Qaj (by simp only[List.length_append,List.length_cons,List.length_nil];omega)]
 simp only[Option.bind_some]
 rw[if_neg (by decide)]
 simp only[Option.bind_some]
 rw[if_pos (by decide),Qaj (by simp only[List.length_append,List.length_cons,List.length_nil];omega),Qgb]
 simp only[Option.bind_some]
 rw[Qaj (by simp only[List.length_append,List.length_cons,List.length_nil];omega)]
 simp only[Option.bind_some]
 have l1:=QcC (n:=lo) (by unfold I64;omega)
 rw[if_pos (by decide),Qda (by simp only[List.length_append,List.length_cons,List.length_nil];omega) hlo]
 simp only[Option.bind_some]
 rw[if_pos (by decide),Qda (by simp only[List.length_append,List.length_cons,List.length_nil];omega) hhi]
 simp only[Option.bind_some]
 rw[if_neg (by decide)]
 simp[toks,Qd8]
theorem rLine6 {n o u:Str} {lo hi:Int} {w:List Str} {g:List Int} (hn:n.length≤12) (ho:(Qbe o).length≤12) (hno:Qbe o=o):QaG ⟨n,o,u,6,lo,hi,w,g⟩=some (10::([115,117,109]++toks [.str n,.str o])):=by
 unfold QaG QbO QbX
 simp only[Option.bind_some]
 rw[show idx ([([107,101,121]:Str),([114,101,102]:Str),([110,117,109]:Str),([112,105,99,107]:Str),([100,97,121]:Str),([115,116,101,112]:Str),([115,117,109]:Str),([115,104,97,114,101]:Str),([99,111,112,121]:Str)]) (6:Int)=some [115,117,109] from rfl]
 simp only[Option.bind_some]
 rw[Qaj (by simp),Qaj (by simp only[List.length_append,List.length_cons,List.length_nil];omega),Qaj (by simp only[List.length_append,List.length_cons,List.length_nil];omega)]
 simp only[Option.bind_some]
 rw[if_neg (by decide)]
 simp only[Option.bind_some]
 rw[if_pos (by decide),Qaj (by simp only[List.length_append,List.length_cons,List.length_nil];omega),Qgb]
 simp only[Option.bind_some]
 rw[Qaj (by simp only[List.length_append,List.length_cons,List.length_nil];omega)]
 simp only[Option.bind_some]
 rw[if_neg (by decide)]
 simp only[Option.bind_some]
 rw[if_neg (by decide)]
 simp only[Option.bind_some]
 rw[if_neg (by decide)]
 simp[toks,Qd8,hno]
theorem rLine7 {n o u:Str} {lo hi:Int} {w:List Str} {g:List Int} (hn:n.length≤12) (hu:u.length≤12) (ho:(Qbe o).length≤12) (hno:Qbe o=o) (hlo:-1000000000≤lo∧lo≤1000000000) (hhi:-1000000000≤hi∧hi≤1000000000):QaG ⟨n,o,u,7,lo,hi,w,g⟩=some (10::([115,104,97,114,101]++toks [.str n,.str u,.str o,.int lo,.int hi])):=by
 unfold QaG QbO QbX
 simp only[Option.bind_some]
 rw[show idx ([([107,101,121]:Str),([114,101,102]:Str),([110,117,109]:Str),([112,105,99,107]:Str),([100,97,121]:Str),([115,116,101,112]:Str),([115,117,109]:Str),([115,104,97,114,101]:Str),([99,111,112,121]:Str)]) (7:Int)=some [115,104,97,114,101] from rfl]
 simp only[Option.bind_some]
 rw[Qaj (by simp),Qaj (by simp only[List.length_append,List.length_cons,List.length_nil];omega),Qaj (by simp only[List.length_append,List.length_cons,List.length_nil];omega)]
 simp only[Option.bind_some]
 rw[if_pos (by decide),Qaj (by simp only[List.length_append,List.length_cons,List.length_nil];omega),Qaj (by simp only[List.length_append,List.length_cons,List.length_nil];omega)]
 simp only[Option.bind_some]
 rw[if_pos (by decide),Qaj (by simp only[List.length_append,List.length_cons,List.length_nil];omega),Qgb]
 simp only[Option.bind_some]
 rw[Qaj (by simp only[List.length_append,List.length_cons,List.length_nil];omega)]
 simp only[Option.bind_some]
 have l1:=QcC (n:=lo) (by unfold I64;omega)
 rw[if_pos (by decide),Qda (by simp only[List.length_append,List.length_cons,List.length_nil];omega) hlo]
 simp only[Option.bind_some]
 rw[if_pos (by decide),Qda (by simp only[List.length_append,List.length_cons,List.length_nil];omega) hhi]
 simp only[Option.bind_some]
 rw[if_neg (by decide)]
 simp[toks,Qd8,hno]
theorem rLine8 {n o u:Str} {lo hi:Int} {w:List Str} {g:List Int} (hn:n.length≤12) (hu:u.length≤12) (ho:(Qbe o).length≤12) (hno:Qbe o=o):QaG ⟨n,o,u,8,lo,hi,w,g⟩=some (10::([99,111,112,121]++toks [.str n,.str u,.str o])):=by
 unfold QaG QbO QbX
 simp only[Option.bind_some]
 rw[show idx ([([107,101,121]:Str),([114,101,102]:Str),([110,117,109]:Str),([112,105,99,107]:Str),([100,97,121]:Str),([115,116,101,112]:Str),([115,117,109]:Str),([115,104,97,114,101]:Str),([99,111,112,121]:Str)]) (8:Int)=some [99,111,112,121] from rfl]
 simp only[Option.bind_some]
 rw[Qaj (by simp),Qaj (by simp only[List.length_append,List.length_cons,List.length_nil];omega),Qaj (by simp only[List.length_append,List.length_cons,List.length_nil];omega)]
 simp only[Option.bind_some]
 rw[if_pos (by decide),Qaj (by simp only[List.length_append,List.length_cons,List.length_nil];omega),Qaj (by simp only[List.length_append,List.length_cons,List.length_nil];omega)]
 simp only[Option.bind_some]
 rw[if_pos (by decide),Qaj (by simp only[List.length_append,List.length_cons,List.length_nil];omega),Qgb]
 simp only[Option.bind_some]
 rw[Qaj (by simp only[List.length_append,List.length_cons,List.length_nil];omega)]
 simp only[Option.bind_some]
 rw[if_neg (by decide)]
 simp only[Option.bind_some]
 rw[if_neg (by decide)]
 simp only[Option.bind_some]
 rw[if_neg (by decide)]
 simp[toks,Qd8,hno]

end Go.Proofs.YtcdccjagknlmpaaGreatDoor

namespace Go.Proofs.YtcdccjagknlmpaaGreatDoor
open Go.Sim

/-- A line of a field without its end. -/
def QnR (f:Qb):Str:=QmC f++toks (QaR f)
theorem QsR (l:List (Str×Int)):toks (l.flatMap fun p=>[AnyV.str p.1,AnyV.int p.2])=l.flatMap fun p=>(32::p.1)++(32::Lib.itoa p.2):=by
 induction l with
 | nil=>rfl
 | cons a l ih=>
  rw[List.flatMap_cons,List.flatMap_cons,←ih]
  simp[toks,Qd8]
theorem rLine3 {n o u:Str} {lo hi:Int} {w:List Str} {g:List Int} (hn:n.length≤12) (hl:w.length=g.length) (h12:w.length≤12) (hw:∀s∈w,s.length≤12) (hg:∀x∈g,0≤x∧x≤1048576):
  QaG ⟨n,o,u,3,lo,hi,w,g⟩=some (10::([112,105,99,107]++toks ([.str n,.int (w.length:Int)]++(w.zip g).flatMap fun p=>[.str p.1,.int p.2]))):=by
 have hz:(w.zip g).length=w.length:=by rw[List.length_zip];omega
 unfold QaG QbO QbX
 simp only[Option.bind_some]
 rw[show idx ([([107,101,121]:Str),([114,101,102]:Str),([110,117,109]:Str),([112,105,99,107]:Str),([100,97,121]:Str),([115,116,101,112]:Str),([115,117,109]:Str),([115,104,97,114,101]:Str),([99,111,112,121]:Str)]) (3:Int)=some [112,105,99,107] from rfl]
 simp only[Option.bind_some]
 rw[Qaj (by simp),Qaj (by simp only[List.length_append,List.length_cons,List.length_nil];omega),Qaj (by simp only[List.length_append,List.length_cons,List.length_nil];omega)]
 simp only[Option.bind_some]
 rw[if_neg (by decide)]
 simp only[Option.bind_some]
 rw[if_neg (by decide)]
 simp only[Option.bind_some]
 rw[if_neg (by decide)]
 simp only[Option.bind_some]
 rw[if_neg (by decide)]
 simp only[Option.bind_some]
 have l1:=QcC (n:=(w.length:Int)) (by unfold I64;omega)
 rw[if_pos (by decide),Qda (by simp only[List.length_append,List.length_cons,List.length_nil];omega) (by omega)]
 simp only[Option.bind_some]
 have lp:∀p∈w.zip g,p.1.length≤12∧0≤p.2∧p.2≤1048576∧(Lib.itoa p.2).length≤20:=fun p hp=>by
  obtain⟨a,b⟩:=p
  have h:=List.of_mem_zip hp
  have h2:=hg b h.2
  exact⟨hw a h.1,h2.1,h2.2,QcC (by unfold I64;dsimp only;omega)⟩
 rw[Qeh (w.zip g) (fun p=>(32::p.1)++(32::Lib.itoa p.2)) 40 (fun p hp=>?_) _ (fun k hk acc hacc=>?_) (fun acc=>?_)]
 ·simp only[Option.bind_some]
  have e:∀a b:List AnyV,toks (a++b)=toks a++toks b:=fun a b=>by unfold toks;rw[List.flatMap_append]
  rw[e,QsR]
  simp[toks,Qd8]
 ·have:=lp p hp
  simp only[List.length_append,List.length_cons];omega
 ·have hk':k<w.length:=by omega
  have hp:=lp _ (List.getElem_mem hk)
  rw[List.getElem_zip] at hp ⊢
  dsimp only at hp ⊢
  simp only[List.length_append,List.length_cons,List.length_nil] at hacc
  rw[if_pos (decide_eq_true (Int.ofNat_lt.2 hk')),Qaj (by rw[List.length_singleton];omega),Qaa hk',Qaa (show k<g.length by omega)]
  simp only[Option.bind_some]
  rw[Qaj (by rw[List.length_append,List.length_singleton];omega)]
  simp only[Option.bind_some]
  rw[Qda (by rw[List.length_append,List.length_append,List.length_singleton];omega) (by omega),Q1 hk' (by omega)]
  simp
 ·rw[hz,if_neg (by simp)]
theorem Qvd {f:Qb} (h:QaX f=true):QaG f=some (10::QnR f):=by
 unfold QaX at h
 simp only[Bool.and_eq_true] at h
 obtain⟨⟨hn,_⟩,hp⟩:=h
 have hnl:=Qb2 hn
 obtain⟨n,o,u,k,lo,hi,w,g⟩:=f
 have nl:∀{s:Str},Qad s=true→(Qbe s).length≤12:=fun {s} hs=>by rw[QmE hs];exact Qb2 hs
 unfold Qgk at hp
 dsimp only at hp hn hnl
 by_cases c0:k=0
 ·subst c0
  rw[if_pos rfl] at hp
  have:=Qdn hp
  rw[rLine0 hnl (by omega)];rfl
 rw[if_neg c0] at hp
 by_cases c1:k=1
 ·subst c1
  rw[if_pos rfl] at hp
  simp only[Bool.and_eq_true] at hp
  have:=Qdt hp.2
  rw[rLine1 hnl (nl hp.1) (by omega) (by omega)];rfl
 rw[if_neg c1] at hp
 by_cases c2:k=2
 ·subst c2
  rw[if_pos rfl] at hp
  have:=Qdt hp
  rw[rLine2 hnl (by omega) (by omega)];rfl
 rw[if_neg c2] at hp
 by_cases c3:k=3
 ·subst c3
  rw[if_pos rfl] at hp
  simp only[Qkr,Bool.and_eq_true,List.all_eq_true,beq_iff_eq] at hp
  obtain⟨hg,⟨⟨hw,hl⟩,_⟩,hws⟩:=hp
  have hw':=(Qdn hw).2
  rw[rLine3 hnl (by omega) (by omega) (fun s hs=>Qb2 (hws s hs)) (fun x hx=>Qdn (hg x hx))];rfl
 rw[if_neg c3] at hp
 by_cases c4:k=4
 ·subst c4
  rw[if_pos rfl] at hp
  simp only[Bool.and_eq_true] at hp
  have:=Qdt hp.2
  have ho:(Qbe o).length≤12:=by
   by_cases hs:o=[]
   ·subst hs;decide
   ·exact nl (by simpa[hs] using hp.1)
  rw[rLine4 hnl ho (by omega) (by omega)];rfl
 rw[if_neg c4] at hp
 by_cases c5:k=5
 ·subst c5
  rw[if_pos rfl] at hp
  simp only[Bool.and_eq_true] at hp
  have:=Qdt hp.2
  rw[rLine5 hnl (nl hp.1) (by omega) (by omega)];rfl
 rw[if_neg c5] at hp
 by_cases c6:k=6
 ·subst c6
  rw[if_pos rfl] at hp
  rw[rLine6 hnl (nl hp) (QmE hp)];rfl
 rw[if_neg c6] at hp
 by_cases c7:k=7
 ·subst c7
  rw[if_pos rfl] at hp
  simp only[Bool.and_eq_true] at hp
  have:=Qdt hp.2
  rw[rLine7 hnl (Qb2 hp.1.2) (nl hp.1.1) (QmE hp.1.1) (by omega) (by omega)];rfl
 rw[if_neg c7] at hp
 by_cases c8:k=8
 ·subst c8
  rw[if_pos rfl] at hp
  simp only[Bool.and_eq_true] at hp
  rw[rLine8 hnl (Qb2 hp.2) (nl hp.1) (QmE hp.1)];rfl
 rw[if_neg c8] at hp
 cases hp

end Go.Proofs.YtcdccjagknlmpaaGreatDoor

namespace Go.Proofs.YtcdccjagknlmpaaGreatDoor
open Go.Sim

def Qku (k:Qj):Str:=(10::([107,105,110,100]++toks [.str k.Name,.int k.Lo,.int k.Hi]))++k.Fields.flatMap fun f=>10::QnR f
def Qps (m:QU):Str:=10::([109,111,118,101]++toks [.int m.a0,.int m.a1])
def Qlj (l:Qn):Str:=(10::([108,105,102,101]++toks ([.str l.Name,.int (l.States.length:Int)]++l.States.map .str)))++l.Moves.flatMap Qps
def QnS (r:Qm):Str:=10::([114,117,108,101]++toks (Qga r))
def QjS (x:Qg):Str:=[115,99,104,101,109,97]++(32::Lib.itoa x.Version)
/-- The source without its end. -/
def srcR (x:Qg):Str:=QjS x++x.Kinds.flatMap Qku++x.Lives.flatMap Qlj++x.Rules.flatMap QnS
theorem shift {α:Type} {l:List α} {g h:α→Str} (e:∀a∈l,[10]++g a=h a++[10]):[10]++l.flatMap g=l.flatMap h++[10]:=by
 induction l with
 | nil=>rfl
 | cons a l ih=>
  rw[List.flatMap_cons,List.flatMap_cons,←List.append_assoc,e a List.mem_cons_self,List.append_assoc,ih fun b hb=>e b (List.mem_cons_of_mem _ hb),List.append_assoc]
theorem Qpt (k:Qj):[10]++Qf1 k=Qku k++[10]:=by
 have:=shift (l:=k.Fields) (g:=Qfy) (h:=fun f=>10::QnR f) fun f _=>rfl
 unfold Qf1 Qku Qe5
 rw[List.append_assoc _ [10],this]
 simp
theorem Qpu (l:Qn):[10]++QgY l=Qlj l++[10]:=by
 have:=shift (l:=l.Moves) (g:=QiD) (h:=Qps) fun m _=>rfl
 unfold QgY Qlj Qe5
 rw[List.append_assoc _ [10],this]
 simp
theorem Qub (x:Qg):srcS x=srcR x++[10]:=by
 have e1:=shift (l:=x.Kinds) (g:=Qf1) (h:=Qku) fun k _=>Qpt k
 have e2:=shift (l:=x.Lives) (g:=QgY) (h:=Qlj) fun k _=>Qpu k
 have e3:=shift (l:=x.Rules) (g:=Qju) (h:=QnS) fun k _=>rfl
 have e0:Qe5 [115,99,104,101,109,97] [.int x.Version]=QjS x++[10]:=by simp[Qe5,QjS,toks,Qd8]
 unfold srcS srcR
 rw[e0,List.append_assoc (QjS x),e1,←List.append_assoc,List.append_assoc _ [10],e2,←List.append_assoc,List.append_assoc _ [10],e3]
 simp
theorem Qj5 {a b:Str} (h:[10]++a=b++[10]):a.length=b.length:=by
 have:=congrArg List.length h
 simp only[List.length_append,List.length_cons,List.length_nil] at this
 omega

theorem QsS {x:Qg} (h:QlW x):QgK x=some (srcR x++[10]):=by
 have hv:=h.version
 have l0:(QjS x).length≤30:=by
  have:=QcC (n:=x.Version) (by unfold I64;omega)
  unfold QjS
  simp only[List.length_append,List.length_cons,List.length_nil];omega
 have kl:∀k∈x.Kinds,(Qku k).length≤50000:=fun k hk=>by rw[←Qj5 (Qpt k)];exact Qls (h.kind k hk)
 have ll:∀k∈x.Lives,(Qlj k).length≤20000:=fun k hk=>by rw[←Qj5 (Qpu k)];exact QjQ (h.life k hk)
 have rl:∀k∈x.Rules,(QnS k).length≤1000:=fun k hk=>by
  have e:[10]++Qju k=QnS k++[10]:=rfl
  rw[←Qj5 e];exact Qlt (h.rule k hk)
 have lk:=Qhu kl
 have ll':=Qhu ll
 have lr:=Qhu rl
 have nk:=h.kinds
 have nl:=h.lives
 have nr:=h.rules
 unfold QgK
 have e0:QbD [115,99,104,101,109,97] x.Version=some (QjS x):=Qda (by decide) (by omega)
 rw[e0]
 simp only[Option.bind_some]
 rw[Qeh x.Kinds Qku 50000 kl (QjS x) (fun k hk acc hacc=>?_) (fun acc=>if_neg (by simp))]
 ·simp only[Option.bind_some]
  rw[Qeh x.Lives Qlj 20000 ll (QjS x++x.Kinds.flatMap Qku) (fun k hk acc hacc=>?_) (fun acc=>if_neg (by simp))]
  ·simp only[Option.bind_some]
   rw[Qeh x.Rules QnS 1000 rl (QjS x++x.Kinds.flatMap Qku++x.Lives.flatMap Qlj) (fun k hk acc hacc=>?_) (fun acc=>if_neg (by simp))]
   ·simp only[Option.bind_some]
    rw[Qaj (by simp only[List.length_append,List.length_cons,List.length_nil];omega)]
    rfl
   ·have hr:=h.rule _ (List.getElem_mem hk)
    simp only[Qgm,Bool.and_eq_true] at hr
    obtain⟨⟨⟨⟨⟨h1,h2⟩,h3⟩,h4⟩,_⟩,h5⟩:=hr
    have hN:=Qdn h5
    have n1:=Qb2 h1
    have n2:=Qb2 h2
    have na:=QmB (Qjt h3)
    have nb:=QmB (Qjt h4)
    have na':(Qbe x.Rules[k].A).length≤100:=na
    have nb':(Qbe x.Rules[k].B).length≤100:=nb
    simp only[List.length_append] at hacc
    rw[if_pos (decide_eq_true (Int.ofNat_lt.2 hk))]
    dsimp only
    rw[Qaa hk]
    simp only[Option.bind_some]
    rw[Qgb,Qgb]
    simp only[Option.bind_some]
    rw[Qaj (by simp only[List.length_cons,List.length_nil];omega),Qaj (by simp only[List.length_append,List.length_cons,List.length_nil];omega),
     Qaj (by simp only[List.length_append,List.length_cons,List.length_nil];omega),Qaj (by simp only[List.length_append,List.length_cons,List.length_nil];omega),
     Qaj (by simp only[List.length_append,List.length_cons,List.length_nil];omega),Qaj (by simp only[List.length_append,List.length_cons,List.length_nil];omega),
     Qaj (by simp only[List.length_append,List.length_cons,List.length_nil];omega),Qaj (by simp only[List.length_append,List.length_cons,List.length_nil];omega)]
    simp only[Option.bind_some]
    rw[Qda (by simp only[List.length_append,List.length_cons,List.length_nil];omega) (by omega),Q1 hk (by omega)]
    simp[QnS,Qga,toks,Qd8]
  ·have hl:=h.life _ (List.getElem_mem hk)
   simp only[Qgl,Bool.and_eq_true,List.all_eq_true,decide_eq_true_eq] at hl
   obtain⟨⟨⟨⟨h1,h2⟩,h3⟩,h4⟩,h5⟩:=hl
   have hS:=Qdn h2
   have n1:=Qb2 h1
   have l1:=QcC (n:=(x.Lives[k].States.length:Int)) (by unfold I64;omega)
   simp only[List.length_append] at hacc
   rw[if_pos (decide_eq_true (Int.ofNat_lt.2 hk))]
   dsimp only
   rw[Qaa hk]
   simp only[Option.bind_some]
   rw[Qaj (by simp only[List.length_cons,List.length_nil];omega),Qaj (by simp only[List.length_append,List.length_cons,List.length_nil];omega)]
   simp only[Option.bind_some]
   rw[Qda (by simp only[List.length_append,List.length_cons,List.length_nil];omega) (by omega)]
   simp only[Option.bind_some]
   rw[Qeh x.Lives[k].States (fun s=>32::s) 20 (fun s hs=>by have:=Qb2 (h3 s hs);rw[List.length_cons];omega) _ (fun q hq acc2 hacc2=>?_) (fun acc=>if_neg (by simp))]
   ·simp only[Option.bind_some]
    have ls:=Qhu (l:=x.Lives[k].States) (g:=fun s=>32::s) (B:=20) (fun s hs=>by have:=Qb2 (h3 s hs);rw[List.length_cons];omega)
    rw[Qeh x.Lives[k].Moves Qps 300 (fun m hm=>?_) _ (fun q hq acc2 hacc2=>?_) (fun acc=>if_neg (by simp))]
    ·simp only[Option.bind_some]
     rw[Q1 hk (by omega)]
     have e:(x.Lives[k].States.map AnyV.str).flatMap (fun v=>32::Qd8 v)=x.Lives[k].States.flatMap fun s=>32::s:=by
      rw[List.flatMap_map];rfl
     simp[Qlj,toks,Qd8,←e]
    ·have e:[10]++QiD m=Qps m++[10]:=rfl
     rw[←Qj5 e];exact QjP (Qt3 (by omega) (h5 m hm))
    ·have hm:=h5 _ (List.getElem_mem hq)
     simp only[QjO,Bool.and_eq_true] at hm
     have m1:=Qdn hm.1
     have m2:=Qdn hm.2
     have i1:=QcC (n:=x.Lives[k].Moves[q].a0) (by unfold I64;omega)
     simp only[List.length_append,List.length_cons,List.length_nil] at hacc2
     rw[if_pos (decide_eq_true (Int.ofNat_lt.2 hq))]
     dsimp only
     rw[Qaj (by simp only[List.length_cons,List.length_nil];omega),Qaa hq]
     simp only[Option.bind_some]
     rw[Qda (by simp only[List.length_append,List.length_cons,List.length_nil];omega) (by omega)]
     simp only[Option.bind_some]
     rw[Qda (by simp only[List.length_append,List.length_cons,List.length_nil];omega) (by omega),Q1 hq (by omega)]
     simp[Qps,toks,Qd8]
   ·have hs:=Qb2 (h3 _ (List.getElem_mem hq))
    simp only[List.length_append,List.length_cons,List.length_nil] at hacc2
    rw[if_pos (decide_eq_true (Int.ofNat_lt.2 hq))]
    dsimp only
    rw[Qaj (by simp only[List.length_cons,List.length_nil];omega),Qaa hq]
    simp only[Option.bind_some]
    rw[Qaj (by simp only[List.length_append,List.length_cons,List.length_nil];omega),Q1 hq (by omega)]
    simp
 ·have hk':=h.kind _ (List.getElem_mem hk)
  simp only[Qd7,Bool.and_eq_true,List.all_eq_true,decide_eq_true_eq] at hk'
  obtain⟨⟨⟨h1,h2⟩,h3⟩,h4⟩:=hk'
  have hS:=Qdt h2
  have n1:=Qb2 h1
  have l1:=QcC (n:=x.Kinds[k].Lo) (by unfold I64;omega)
  have l2:=QcC (n:=x.Kinds[k].Hi) (by unfold I64;omega)
  rw[if_pos (decide_eq_true (Int.ofNat_lt.2 hk))]
  dsimp only
  rw[Qaa hk]
  simp only[Option.bind_some]
  rw[Qaj (by simp only[List.length_cons,List.length_nil];omega),Qaj (by simp only[List.length_append,List.length_cons,List.length_nil];omega)]
  simp only[Option.bind_some]
  rw[Qda (by simp only[List.length_append,List.length_cons,List.length_nil];omega) (by omega)]
  simp only[Option.bind_some]
  rw[Qda (by simp only[List.length_append,List.length_cons,List.length_nil];omega) (by omega)]
  simp only[Option.bind_some]
  have fl:∀f∈x.Kinds[k].Fields,(10::QnR f).length≤4000:=fun f hf=>by
   have e:[10]++Qfy f=(10::QnR f)++[10]:=rfl
   rw[←Qj5 e];exact Qid (Qj3 (h4 f hf))
  rw[Qeh x.Kinds[k].Fields (fun f=>10::QnR f) 4000 fl _ (fun q hq acc2 hacc2=>?_) (fun acc=>if_neg (by simp))]
  ·simp only[Option.bind_some]
   rw[Q1 hk (by omega)]
   simp[Qku,toks,Qd8]
  ·have hf:=fl _ (List.getElem_mem hq)
   simp only[List.length_append,List.length_cons,List.length_nil] at hacc2
   rw[if_pos (decide_eq_true (Int.ofNat_lt.2 hq))]
   dsimp only
   rw[Qaa hq]
   simp only[Option.bind_some]
   rw[Qvd (h4 _ (List.getElem_mem hq))]
   simp only[Option.bind_some]
   rw[Qaj (by omega),Q1 hq (by omega)]
   rfl

theorem Quc {x:Qg} (h:Fine x):Qhi x=some (QgO x):=by
 obtain⟨⟨a1,a2⟩,⟨b1,b2⟩,c⟩:=h
 have n1:∀(n:Nat) (m:Int),decide ((n:Int)>m)=!decide ((n:Int)≤m):=fun n m=>by
  by_cases h:(n:Int)≤m
  ·rw[decide_eq_true h,decide_eq_false (by omega)];rfl
  ·rw[decide_eq_false h,decide_eq_true (by omega)];rfl
 unfold Qhi
 rw[show QaY x.Version 0 1048576=some (inW x.Version 0 1048576) from rfl]
 simp only[Option.bind_some]
 rw[n1,n1,n1,Qeg x.Kinds Qd7 1 (fun k hk=>?_) (if_neg (by simp)),Qeg x.Lives Qgl 1 (fun k hk=>?_) (if_neg (by simp)),Qeg x.Rules Qgm 1 (fun k hk=>?_) (if_neg (by simp))]
 ·unfold QgO
  cases hv:Qh6 x with
  | true=>
   have hs:=QsS (Qlg hv)
   rw[←Qub] at hs
   simp only[Qh6,Bool.and_eq_true] at hv
   obtain⟨⟨⟨⟨⟨⟨h1,h2⟩,h3⟩,h4⟩,h5⟩,h6⟩,h7⟩:=hv
   rw[h1,h2,h3,h4,h5,h6,h7,hs]
   simp only[Bool.not_true,Bool.or_self,if_true,Option.bind_some]
   rw[if_neg (by decide)]
   by_cases hl:(srcS x).length>8192
   ·rw[if_pos (by simp;omega),if_pos hl]
   ·rw[if_neg (by simp;omega),if_neg hl]
  | false=>
   show _=some (1:Int)
   unfold Qh6 at hv
   cases h1:inW x.Version 0 1048576<;>cases h2:decide ((x.Kinds.length:Int)≤6)<;>cases h3:decide ((x.Lives.length:Int)≤6)<;>cases h4:decide ((x.Rules.length:Int)≤16)<;>
    cases h5:x.Kinds.all Qd7<;>cases h6:x.Lives.all Qgl<;>cases h7:x.Rules.all Qgm<;>first | rfl | (rw[h1,h2,h3,h4,h5,h6,h7] at hv;cases hv)
 ·rw[if_pos (decide_eq_true (Int.ofNat_lt.2 hk)),Qaa hk]
  simp only[Option.bind_some]
  rw[Qva]
  simp only[Option.bind_some]
  rw[Q1 hk (by omega)]
  cases Qgm x.Rules[k]<;>rfl
 ·have hl:=b2 _ (List.getElem_mem hk)
  rw[if_pos (decide_eq_true (Int.ofNat_lt.2 hk)),Qaa hk]
  simp only[Option.bind_some]
  rw[Qu9 hl.1 hl.2]
  simp only[Option.bind_some]
  rw[Q1 hk (by omega)]
  cases Qgl x.Lives[k]<;>rfl
 ·rw[if_pos (decide_eq_true (Int.ofNat_lt.2 hk)),Qaa hk]
  simp only[Option.bind_some]
  rw[Qvc (a2 _ (List.getElem_mem hk))]
  simp only[Option.bind_some]
  rw[Q1 hk (by omega)]
  cases Qd7 x.Kinds[k]<;>rfl

end Go.Proofs.YtcdccjagknlmpaaGreatDoor

namespace Go.Proofs.YtcdccjagknlmpaaGreatDoor
open Go.Sim

theorem Qfn {x:Qg} {n:Str} (hx:x.Kinds.length≤1000000):QcQ x n=some (Q4 x n):=by
 unfold QcQ
 rw[QcX x.Kinds (fun k=>k.Name==n) (fun k hk=>?_) ?_]
 ·unfold Q4 Qbj;cases x.Kinds.findIdx? _<;>rfl
 ·rw[if_neg (by simp)]
 ·rw[if_pos (by simpa using hk),Qaa hk,Q1 hk (by omega)];rfl
theorem Qf2 {q:Qj} {n:Str} (hx:q.Fields.length≤1000000):QcR q n=some (Qav q n):=by
 unfold QcR
 rw[QcX q.Fields (fun k=>k.Name==n) (fun k hk=>?_) ?_]
 ·unfold Qav Qbj;cases q.Fields.findIdx? _<;>rfl
 ·rw[if_neg (by simp)]
 ·rw[if_pos (by simpa using hk),Qaa hk,Q1 hk (by omega)];rfl
theorem has_is (x:Qg) (k j:Int):QiT x k j=some (field? x k j).isSome:=by
 unfold QiT
 by_cases hc:(0≤k∧k<x.Kinds.length)∧0≤j
 ·obtain⟨⟨h1,h2⟩,h3⟩:=hc
  obtain⟨q,hq,_⟩:=Qdm h1 h2
  rw[if_neg (by simp;omega),hq]
  show some (decide (j<(q.Fields.length:Int)))=_
  by_cases h4:j<q.Fields.length
  ·obtain⟨f,hf,_⟩:=Qdm h3 h4
   rw[Qhs h1 h3 hq hf];simpa using h4
  ·cases h:field? x k j with
   | none=>simpa using h4
   | some f=>
    obtain⟨q',_,_,e1,e2,_,_,e3⟩:=Qct h
    rw[hq] at e1;cases e1;exact (h4 e3).elim
 ·rw[if_pos (by simp;omega)]
  cases h:field? x k j with
  | none=>rfl
  | some f=>
   obtain⟨q',e1,e2,_,_,_,e3,_⟩:=Qct h
   exact (hc ⟨⟨e1,e3⟩,e2⟩).elim

end Go.Proofs.YtcdccjagknlmpaaGreatDoor

namespace Go.Proofs.YtcdccjagknlmpaaGreatDoor
open Go.Sim

theorem Qlu {x:Qg} {k j:Int} (hx:Few x):Qhk x k j=some (upIx x k j):=by
 have fin:∀g:Qb,(if (g.Kind !=1)=true then some (-1) else (QcQ x g.Of).bind fun t62=>if decide (t62≥k)=true then some (-1) else some t62)=some (if g.Kind=1 then QiW x k g else -1):=fun g=>by
  by_cases hg:g.Kind=1
  ·rw[if_neg (by simp[hg]),if_pos hg,Qfn (by have:=hx.1;omega)]
   show (if decide (Q4 x g.Of≥k)=true then some (-1) else some (Q4 x g.Of))=_
   unfold QiW
   by_cases hk:Q4 x g.Of<k
   ·rw[if_neg (by simp;omega),if_pos hk]
   ·rw[if_pos (by simp;omega),if_neg hk]
  ·rw[if_pos (by simp[hg]),if_neg hg]
 unfold Qhk
 rw[has_is]
 unfold upIx
 cases hf:field? x k j with
 | none=>rfl
 | some f=>
  obtain⟨q,hk,hj,hq,hqf,hqm,_,hjl⟩:=Qct hf
  simp only[Option.bind_some,Option.isSome_some,Bool.not_true]
  rw[if_neg (by decide),hq]
  simp only[Option.bind_some]
  rw[hqf]
  simp only[Option.bind_some]
  unfold jn
  dsimp only
  by_cases c:f.Kind=7∨f.Kind=8
  ·rw[if_pos (by simpa using c),if_pos c]
   rw[Qf2 (by have:=hx.2 q hqm;omega)]
   simp only[Option.bind_some]
   have hr:=QhN q.Fields fun g=>g.Name==f.Up
   have hr1:-1≤Qav q f.Up:=hr.1
   have hr2:Qav q f.Up<q.Fields.length:=hr.2
   by_cases hu:0≤Qav q f.Up∧Qav q f.Up<j
   ·obtain⟨g,hg,_⟩:=Qdm hu.1 hr2
    rw[if_neg (by simp;omega),if_pos hu.2,Qhs hk hu.1 hq hg,hg]
    exact fin g
   ·rw[if_pos (by simp;omega)]
    by_cases hu2:Qav q f.Up<j
    ·rw[if_pos hu2]
     have:field? x k (Qav q f.Up)=none:=by
      cases hg:field? x k (Qav q f.Up) with
      | none=>rfl
      | some g=>obtain⟨_,_,e,_⟩:=Qct hg;exact (hu ⟨e,hu2⟩).elim
     rw[this]
    ·rw[if_neg hu2]
  ·rw[if_neg (by simpa using c),if_neg c]
   exact fin f
theorem Qxd {x:Qg} {k j:Int} {f:Qb} (hx:Few x) (hf:field? x k j=some f):Qh4 x k j=some (Qlf x k f):=by
 obtain⟨q0,hk,hj,hq0,hqf,hqm0,_,hjl⟩:=Qct hf
 unfold Qh4
 rw[hq0]
 simp only[Option.bind_some]
 rw[hqf]
 simp only[Option.bind_some]
 rw[Qfn (by have:=hx.1;omega)]
 simp only[Option.bind_some]
 unfold Qlf
 by_cases c:f.Kind≠6∨Q4 x f.Of≤k
 ·rw[if_pos (by simpa using c),if_pos c]
 rw[if_neg (by simpa using c),if_neg c]
 have c':k<Q4 x f.Of:=by
  rcases Int.lt_or_le k (Q4 x f.Of) with h | h
  ·exact h
  ·exact (c (.inr h)).elim
 obtain⟨q,hq,hqm⟩:=Qdm (l:=x.Kinds) (i:=Q4 x f.Of) (by omega) (Qj2 x f.Of).2
 have hl:=hx.2 q hqm
 rw[hq]
 simp only[Option.bind_some]
 refine Qef q.Fields.length (fun n=>((n:Int),((List.range n).filter (QiX x (Q4 x f.Of) k f.Name q.Fields)).map Int.ofNat)) _ rfl (fun n hn=>?_) (if_neg (by simp)) ?_
 ·rw[if_pos (by simpa using hn),Qaa hn]
  simp only[Option.bind_some]
  rw[Qlu hx]
  have e:QiX x (Q4 x f.Of) k f.Name q.Fields n=(q.Fields[n].Kind==7&&q.Fields[n].Of==f.Name&&upIx x (Q4 x f.Of) (n:Int)==k):=by
   unfold QiX;rw[List.getElem?_eq_getElem hn]
  have hle:=Qrw (QiX x (Q4 x f.Of) k f.Name q.Fields) n
  rw[Qqr,e,Q1 hn (by omega)]
  cases h0:(q.Fields[n].Kind==7) with
  | false=>rfl
  | true=>
   simp only[Sim.opt,Bool.true_and,if_true,beq_self_eq_true,Option.bind_some]
   cases h1:(q.Fields[n].Of==f.Name) with
   | false=>rfl
   | true=>
    simp only[Bool.true_and,if_true,beq_self_eq_true,Option.bind_some]
    cases h2:upIx x (Q4 x f.Of) (n:Int)==k with
    | false=>rfl
    | true=>
     rw[if_pos rfl,if_pos rfl,Qg8 (by rw[List.length_singleton];omega)]
     rfl
 ·unfold shl;rw[hq]

end Go.Proofs.YtcdccjagknlmpaaGreatDoor

/- Schemas whose lists are not long. No condition. -/
import Derived.Test.YtjioihpegfgbpaaGreatDoorCvC
set_option linter.all false
open List Go.IntKind
namespace Go.Proofs.YtjioihpegfgbpaaGreatDoor
open Go.Sim
def Qo1 (n:Nat) (f:Qd):Prop:=f.Words.length<=n/\f.Xf.length<=n
def Qnq (n:Nat) (k:Qh):Prop:=k.Xb.length<=n/\∀f∈k.Xb,Qo1 n f
def LifeM (n:Nat) (l:Qr):Prop:=l.Xe.length<=n/\l.Xg.length<=n
structure Mid (n:Nat) (x:Qa):Prop where
  kinds:x.Xa.length<=n/\∀k∈x.Xa,Qnq n k
  lives:x.Xd.length<=n/\∀l∈x.Xd,LifeM n l
  rules:x.Xc.length<=n
theorem Qo1.mono {a b:Nat} {f:Qd} (h:Qo1 a f) (hab:a<=b):Qo1 b f:=⟨ZW h.1 hab,ZW h.2 hab⟩
theorem Qnq.mono {a b:Nat} {k:Qh} (h:Qnq a k) (hab:a<=b):Qnq b k:=⟨ZW h.1 hab,λf hf=>(h.2 f hf).mono hab⟩
theorem Mid.short {n:Nat} {x:Qa} (h:Mid n x) (hn:n<=1000):QlZ x:=by
  obtain⟨⟨a,b⟩,⟨c,d⟩,e⟩:=h;refine⟨⟨by omega,λk hk=>by have:=(b k hk).1;omega⟩,⟨⟨by omega,λk hk=>⟨by have:=(b k hk).1;omega,λf hf=>?_⟩⟩,⟨by omega,λl hl=>?_⟩,by omega⟩,by omega,by omega⟩
  · have:=(b k hk).2 f hf;exact⟨by have:=this.1;omega,by have:=this.2;omega⟩
  · have:=d l hl;exact⟨by have:=this.1;omega,by have:=this.2;omega⟩
theorem Qjv {n:Nat} (h:n<=68719476736):rmB n=true:=by unfold rmB;rw[Qcx h];rfl
theorem Mid.copied {n:Nat} {x:Qa} (h:Mid n x) (hn:n<=1000):QbM x=some x:=by
  obtain⟨⟨a,b⟩,⟨c,d⟩,e⟩:=h;unfold QbM;refine Ze ?_;unfold Qlv;rw[Qjv (by omega),Qjv (n:=x.Xd.length) (by omega),Qjv (n:=x.Xc.length) (by omega)];simp only[Bool.true_and,Yl,Zh,Zs];refine⟨λk hk=>⟨Qjv (by have:=(b k hk).1;omega),λf hf=>?_⟩,λl hl=>?_⟩
  · have:=(b k hk).2 f hf;exact⟨Qjv (by have:=this.1;omega),Qjv (by have:=this.2;omega)⟩
  · have:=d l hl;exact⟨Qjv (by have:=this.1;omega),Qjv (by have:=this.2;omega)⟩
theorem Mid.fields {n:Nat} {x:Qa} (h:Mid n x) (hn:n<=1000):QeZ x=some x:=by
  obtain⟨⟨a,b⟩,⟨c,d⟩,e⟩:=h;unfold QeZ;rw[Qru x.Xa (λk=>k) (λk hk acc ha=>?_) (λacc=>by exact Zb (by simp))]
  · simp only[Za,map_id'];rw[Qcx (by simp;omega)];rfl
  · have:=(b _ (Zn hk)).1;rw[Ze (by simpa using hk),Qaa hk];simp only[Za];rw[Qcx (by simp;omega),Qcx (by omega),QT hk (by omega)];rfl
theorem Mid.set {n:Nat} {x:Qa} {v:Int} {i:Nat} {q:Qh} (h:Mid n x) (hq:Qnq (n+1) q):Mid (n+1) ⟨v,x.Xa.set i q,x.Xd,x.Xc⟩:=⟨⟨by rw[ZS];have:=h.kinds.1;omega,Qe4 (λk hk=>(h.kinds.2 k hk).mono (Nat.le_succ n)) hq⟩,⟨Nat.le_succ_of_le h.lives.1,λl hl=>⟨Nat.le_succ_of_le (h.lives.2 l hl).1,Nat.le_succ_of_le (h.lives.2 l hl).2⟩⟩,Nat.le_succ_of_le h.rules⟩
def Qdm (x:Qa):Int:=match Qfi x with | []=>0 | p::_=>p.Code
theorem QkW {k j r e:Int} {p:QF} (h:p∈prob k j r e):p.Code≠0:=by
  unfold prob at h;split at h
  · cases h
  · rename_i he;rw[Zg] at h;subst h;exact he
theorem QtH {x:Qa} {p:QF} (h:p∈Qfi x):p.Code≠0:=by
  unfold Qfi at h;split at h
  · rw[ZH,ZH] at h;rcases h with (h | h) | h
    · obtain⟨i,_,h⟩:=Yh.1 h;unfold QgQ at h;split at h
      · exact QkW h
      · cases h
    · obtain⟨i,_,h⟩:=Yh.1 h;unfold QhA at h;split at h
      · rcases ZH.1 h with h | h
        · exact QkW h
        · obtain⟨j,_,h⟩:=Yh.1 h;unfold QiH at h;split at h
          · exact QkW h
          · cases h
      · cases h
    · obtain⟨i,_,h⟩:=Yh.1 h;unfold QkQ at h;split at h
      · exact QkW h
      · cases h
  · rename_i he;rw[Zg] at h;subst h;exact he
theorem QkX {x:Qa} (h:Qdm x=0):Qfi x=[]:=by
  unfold Qdm at h
  cases hc:Qfi x with
  | nil=>rfl
  | cons p l=>rw[hc] at h;exact absurd h (QtH (by rw[hc];exact Zl ..))
theorem Ql2 {x:Qa} (h:Qdm x=0):QfU x=0:=by
  have hc:=QkX h;unfold Qfi at hc;split at hc
  · assumption
  · cases hc
theorem QjQ {x:Qa} (h:QlZ x):Qc2 x=some (Qdm x):=by
  unfold Qc2 Qdm;rw[QrC h]
  cases Qfi x with
  | nil=>rfl
  | cons p l=>simp only[Za];rw[Ze (by simp)];rfl
abbrev Qjg:Qa:=⟨0,[],[],[]⟩
noncomputable def QtI (z:Qa):Option (Qa×Int):=(QeA (Qa.mk (i64.wrap (z.Version+(1:Int))) z.Xa z.Xd z.Xc)).bind λt230=>(if (decide ((t230.length:Int)>(0:Int)))=true then (idx t230 (0:Int)).bind λt236=>(some ((Qa.mk (0:Int) ([]:(List Qh)) ([]:(List Qr)) ([]:(List Qm))),t236.Code)) else (some ((Qa.mk (i64.wrap (z.Version+(1:Int))) z.Xa z.Xd z.Xc),(0:Int))))
theorem Qys {v:Int} {K:List Qh} {L:List Qr} {R:List Qm} (h:QlZ ⟨i64.wrap (v+1),K,L,R⟩):
    QtI ⟨v,K,L,R⟩=some (if Qdm ⟨i64.wrap (v+1),K,L,R⟩=0 then (⟨i64.wrap (v+1),K,L,R⟩,0) else (Qjg,Qdm ⟨i64.wrap (v+1),K,L,R⟩)):=by
  unfold QtI;rw[QkT h];by_cases hc:Qdm ⟨i64.wrap (v+1),K,L,R⟩=0
  · rw[Ze hc,QkX hc];rfl
  · rw[Zb hc];unfold Qdm at hc ⊢
    cases hl:Qfi ⟨i64.wrap (v+1),K,L,R⟩ with
    | nil=>rw[hl] at hc;exact absurd rfl hc
    | cons p l=>simp only[Za];rw[Ze (by simp)];rfl
theorem Qfk {α:Type} {l:List α} {i:Int} {v:α} (h:idx l i=some v):0<=i/\i<l.length/\v∈l:=by
  unfold idx at h;split at h
  · rename_i h0;have:=Zc.1 h;exact⟨h0,by have:=this.1;omega,Zo h⟩
  · cases h
theorem Qba {α:Type} {l:List α} {i:Int} {v:α} (h:idx l i=some v) (w:α):setAt l i w=some (l.set i.toNat w):=by obtain⟨a,b,_⟩:=Qfk h;unfold setAt;rw[Ze ⟨a,b⟩]
theorem Qe5 {α:Type} {l:List α} {i:Int} {v:α} (h:idx l i=some v) (w:α):idx (l.set i.toNat w) i=some w:=by obtain⟨a,b,_⟩:=Qfk h;rw[QfR _ a,getElem?_set_self (by omega)]

/- Where a step works. No condition. -/
import Derived.Test.YtjioihpegfgbpaaGreatDoorTyO
set_option linter.all false
open List Go.IntKind
namespace Go.Proofs.YtjioihpegfgbpaaGreatDoor
open Go.Sim
def cvO (o:Qt):Qn:=⟨o.Op,o.Xh,o.Field,o.Xi,o.N,o.M⟩
def Qfj (x:Qa) (n:Str):Int:=Qa3 x.Xc λr=>r.Xi==n
theorem Qqn {x:Qa} {n:Str} (hx:x.Xc.length<=1000000):QhP x n=some (Qfj x n):=by
  unfold QhP;rw[QbV x.Xc (λk=>k.Xi==n) (λk hk=>?_) ?_]
  · unfold Qfj Qa3;cases x.Xc.findIdx? _<;>rfl
  · rw[Zb (by simp)]
  · rw[Ze (by simpa using hk),Qaa hk,QT hk (by omega)];rfl
theorem QrF {ρ:Type} (n:Nat) (p:Nat->Bool) (bad:ρ) {body:Int->Option (Int⊕(Unit⊕ρ))}
    (hb:∀k,k<n->body (k:Int)=if p k=true then some (.inr (.inr bad)) else some (.inl ((k+1:Nat):Int))) (he:body (n:Int)=some (.inr (.inl ()))):
    Qz body (0:Int)=some (if (range n).any p=true then .inr bad else .inl ()):=by
  rw[QcV (range n) (λk=>!p k) bad (λk hk=>?_) (by simpa using he)]
  · rw[show ((range n).all λk=>!p k)=!((range n).any p) by rw[not_any_eq_all_not]];cases (range n).any p<;>rfl
  · rw[length_range] at hk;rw[hb k hk,getElem_range];cases p k<;>rfl
def QqB (x:Qa) (nm:Str) (k:Int) (i:Nat) (q:Qh) (j:Nat):Bool:=match q.Xb[j]? with | some c=>(c.Xh==8&&c.Of==nm)&&upIx x (i:Int) (j:Int)==k | none=>false
def QoY (x:Qa) (nm:Str) (k:Int) (i:Nat):Bool:=match x.Xa[i]? with | some q=>(range q.Xb.length).any (QqB x nm k i q) | none=>false
def QkU (q:Qh) (f:Qd) (r:Qm):Bool:=r.Xh==q.Xi&&(r.A==f.Xi||r.B==f.Xi)
def QiI (x:Qa) (q:Qh) (f:Qd) (k:Int):Bool:=f.Xh==2&&!(x.Xc.any (QkU q f))&&!((range x.Xa.length).any (QoY x f.Xi k))
theorem Qp2 {x:Qa} {nm:Str} {k:Int} (hx:Few x) {body:Int->Option (Int⊕(Unit⊕Bool))}
    (hb:∀i (h:i<x.Xa.length),∃inner:Int->Option (Int⊕(Unit⊕Bool)),body (i:Int)=((Qz inner 0).bind λe=>match e with | .inl _=>some (.inl (i64.wrap ((i:Int)+1))) | .inr p=>some (.inr (.inr p)))/\
      (∀j (hj:j<x.Xa[i].Xb.length),inner (j:Int)=if ((x.Xa[i].Xb[j].Xh==8&&x.Xa[i].Xb[j].Of==nm)&&upIx x (i:Int) (j:Int)==k)=true then some (.inr (.inr false)) else some (.inl (i64.wrap ((j:Int)+1))))/\
      inner (x.Xa[i].Xb.length:Int)=some (.inr (.inl ())))
    (he:body (x.Xa.length:Int)=some (.inr (.inl ()))):
    Qz body 0=some (if (range x.Xa.length).any (QoY x nm k)=true then .inr false else .inl ()):=by
  refine QrF _ _ _ (λi h=>?_) he;have hl:=hx.2 _ (Zn h);have hl2:=hx.1;obtain⟨inner,e,hi,hn⟩:=hb i h;rw[e,QrF x.Xa[i].Xb.length (QqB x nm k i x.Xa[i]) false (λj hj=>?_) hn]
  · unfold QoY;rw[Zf h];simp only[Za];rw[QT h (by omega)];by_cases c:(range x.Xa[i].Xb.length).any (QqB x nm k i x.Xa[i])=true
    · rw[Ze c,Ze c]
    · rw[Zb c,Zb c]
  · unfold QqB;rw[hi j hj,Zf hj,QT hj (by omega)]
theorem QrG {x:Qa} {k j:Int} {q:Qh} {f:Qd} (hx:Few x) (hr:x.Xc.length<=1000) (hq:idx x.Xa k=some q) (hf:idx q.Xb j=some f):Qey x k j=some (QiI x q f k):=by
  unfold Qey QiI;rw[hq];simp only[Za];rw[hf];simp only[Za]
  cases h2:f.Xh==2 with
  | false=>rw[Ze (by simp only[bne,h2];rfl)];rfl
  | true=>
    rw[Zb (by simp only[bne,h2];decide)];rw[QcV x.Xc (λr=>!(QkU q f r)) false (λn hn=>?_) (by exact Zb (by simp))]
    · simp only[Za];rw[show (x.Xc.all λr=>!(QkU q f r))=!(x.Xc.any (QkU q f)) by rw[not_any_eq_all_not]]
      cases x.Xc.any (QkU q f) with
      | true=>rfl
      | false=>
        simp only[Bool.not_false,if_true,Bool.true_and];rw[Qp2 (nm:=f.Xi) (k:=k) hx (λi h=>?_) (by exact Zb (by simp))]
        · cases (range x.Xa.length).any (QoY x f.Xi k)<;>rfl
        · refine⟨_,(Ze (by simpa using h)).trans rfl,λj hj=>?_,?_⟩
          · rw[Qaa h];simp only[Za];rw[Ze (by simpa using hj),Qaa hj];simp only[Za];rw[QhU hx];cases (x.Xa[i].Xb[j].Xh==8&&x.Xa[i].Xb[j].Of==f.Xi)<;>rfl
          · rw[Qaa h];simp only[Za];rw[Zb (by simp)]
    · rw[Ze (by simpa using hn),Qaa hn];simp only[Za];rw[QT hn (by omega)];unfold QkU
      cases x.Xc[n].Xh==q.Xi with
      | false=>rfl
      | true=>
        show ((some x.Xc[n]).bind _:Option _)=_;simp only[Za]
        cases h3:(x.Xc[n].A==f.Xi) with
        | true=>rfl
        | false=>show ((some x.Xc[n]).bind _:Option _)=_;simp only[Za];cases (x.Xc[n].B==f.Xi)<;>rfl
theorem Qsa {x:Qa} {p:Qj} {q:Qh} {f:Qd} (hx:Few x) (hr:x.Xc.length<=1000) (hq:idx x.Xa p.kind=some q) (hf:idx q.Xb p.field=some f):QcC x p=some (QiI x q f p.kind):=by
  unfold QcC QiI;rw[hq];simp only[Za];rw[hf];simp only[Za];rw[Qkn (f:=λx0=>QcJ x0 q f) (p:=QkU q f) (by omega) (λr _=>rfl)]
  cases h2:f.Xh==2 with
  | false=>
    have e:(f.Xh !=2)=true:=by simp only[bne,h2];rfl
    rw[e];rfl
  | true=>
    have e:(f.Xh !=2)=false:=by simp only[bne,h2];rfl
    rw[e];show (Option.bind (some _) _)=_;simp only[Za,Bool.false_or,Bool.true_and]
    cases x.Xc.any (QkU q f) with
    | true=>rfl
    | false=>
      rw[Zb (by decide)];simp only[Bool.not_false,Bool.true_and];rw[Qp2 (nm:=f.Xi) (k:=p.kind) hx (λi h=>?_) (by exact Zb (by simp))]
      · cases (range x.Xa.length).any (QoY x f.Xi p.kind)<;>rfl
      · rw[Ze (by simpa using h),Qaa h];refine⟨_,rfl,λj hj=>?_,?_⟩
        · rw[Ze (by simpa using hj),Qaa hj];simp only[Za];rw[Qhh hx];cases (x.Xa[i].Xb[j].Xh==8&&x.Xa[i].Xb[j].Of==f.Xi)<;>rfl
        · rw[Zb (by simp)]

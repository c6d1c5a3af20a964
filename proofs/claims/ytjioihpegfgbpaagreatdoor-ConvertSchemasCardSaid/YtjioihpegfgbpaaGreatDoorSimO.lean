/- The logic's fifteenth part. No condition. -/
import Derived.Test.YtjioihpegfgbpaaGreatDoorSimG
set_option linter.all false
namespace Go.Sim
def Le {α:Type} (x y:Option α):Prop:=∀r,x=some r->y=some r
def Le.rfl {α:Type} {x:Option α}:Le x x:=λ_ h=>h
def Le.bind {α β:Type} {x y:Option α} {f g:α->Option β} (h:Le x y) (hf:∀a,Le (f a) (g a)):Le (x.bind f) (y.bind g):=λr hr=>by obtain⟨a,h1,h2⟩:=bind_some hr;rw[h a h1];exact hf a r h2
def Le.ite {α:Type} {c:Bool} {x y x' y':Option α} (h:Le x x') (k:Le y y'):Le (if c=true then x else y) (if c=true then x' else y'):=λr hr=>by
 cases c with
 | true=>rw[Ze (Eq.refl true)] at hr ⊢;exact h r hr
 | false=>rw[Zb (by simp)] at hr ⊢;exact k r hr
def Le.opt {α:Type} {c:Bool} {x y:Option α} {d:α} (h:Le x y):Le (opt c x d) (Sim.opt c y d):=λr hr=>by
 cases c with
 | true=>exact h r hr
 | false=>exact hr
def Le.jn1 {σ β γ:Type} {k k':σ->Option γ} {f f':(σ->Option γ)->Option β} (hk:∀p,Le (k p) (k' p)) (hf:∀j j':σ->Option γ,(∀p,Le (j p) (j' p))->Le (f j) (f' j')):Le (Sim.jn k f) (Sim.jn k' f'):=hf k k' hk
def QbN {σ ρ:Type} (n:Nat) (body:σ->Option (σ⊕ρ)) (s:σ):Option ρ:=iter body n s
def Le.loop {σ ρ:Type} {n:Nat} {body body':σ->Option (σ⊕ρ)} {s:σ} (h:∀s,Le (body s) (body' s)):Le (QbN n body s) (Qz body' s):=by
 intro r hr;refine Qdc.2 ⟨n,?_⟩;unfold QbN at hr;have key:∀n s,iter body n s=some r->iter body' n s=some r:=by
  intro n
  induction n with
  | zero=>intro s h;cases h
  | succ n ih=>
   intro s hs;simp only[iter] at hs ⊢
   cases hb:body s with
   | none=>rw[hb] at hs;cases hs
   | some o=>
    rw[hb] at hs;rw[h s o hb]
    cases o with
    | inl s'=>exact ih s' hs
    | inr r'=>exact hs
 exact key n s hr
def Le.sum {α β γ:Type} {e:α⊕β} {f f':α->Option γ} {g g':β->Option γ} (h:∀a,Le (f a) (f' a)) (k:∀b,Le (g b) (g' b)):Le (match e with | .inl a=>f a | .inr b=>g b) (match e with | .inl a=>f' a | .inr b=>g' b):=by
 cases e with
 | inl a=>exact h a
 | inr b=>exact k b

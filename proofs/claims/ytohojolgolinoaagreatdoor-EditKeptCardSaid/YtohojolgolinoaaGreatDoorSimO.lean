/- The logic's fifteenth part. No condition. -/
import Derived.Test.YtohojolgolinoaaGreatDoorSimL
set_option linter.all false
namespace Go.Sim
variable {α:Type} {β:Type} {y:Option α} {σ:Type}
def Le (x y:Option α):Prop:=∀r,x=some r->y=some r
def Le.rfl {x:Option α}:Le x x:=λ_ h=>h
def Le.bind {x:Option α} {f g:α->Option β} (h:Le x y) (hf:∀a,Le (f a) (g a)):Le (x.bind f) (y.bind g):=λr b=>by have⟨a,c,d⟩:=bind_some b;rw[h a c];exact hf a r d
def Le.ite {c:Bool} {x b d:Option α} (h:Le x b) (k:Le y d):Le (if c then x else y) (if c then b else d):=λr a=>by
 cases c with
 | true=>rw[Zc (Eq.refl true)] at a ⊢;exact h r a
 | false=>rw[Zb sm] at a ⊢;exact k r a
def Le.opt {c:Bool} {x:Option α} {d:α} (h:Le x y):Le (opt c x d) (Sim.opt c y d):=λr a=>by
 cases c with
 | true=>exact h r a
 | false=>exact a
def D0 {ρ:Type} (n:Nat) (body:σ->Option (σ⊕ρ)) (s:σ):Option ρ:=iter body n s
def Le.loop {ρ:Type} {n:Nat} {body a:σ->Option (σ⊕ρ)} {s:σ} (h:∀s,Le (body s) (a s)):Le (D0 n body s) (Qr a s):=by
 intro r c;refine F2.2 ⟨n,?_⟩;unfold D0 at c;have key:∀n s,iter body n s=some r->iter a n s=some r:=by
  intro n
  induction n with
  | zero=>intro s h;cases h
  | succ n d=>
   intro s b;simp only[iter] at b ⊢
   cases hb:body s with
   | none=>rw[hb] at b;cases b
   | some o=>
    rw[hb] at b;rw[h s o hb]
    cases o with
    | inl e=>exact d e b
    | inr f=>exact b
 exact key n s c

/- Package core. No condition. -/
import Derived.Test.YtlajingmjmnfgaaGreatDoorGenAll
import Derived.Test.YtlajingmjmnfgaaGreatDoorPlain
import Derived.Test.YtlajingmjmnfgaaGreatDoorSimO
set_option linter.all false
open List
namespace Go.Proofs.YtlajingmjmnfgaaGreatDoor
open Go.Sim
def insI (x:Int):List Int->List Int
 | []=>[x]
 | y::l=>if x<=y then x::y::l else y::insI x l
def Qn0:List Int->List Int
 | []=>[]
 | x::l=>insI x (Qn0 l)
def QlJ (x:Int):∀l,(insI x l).Perm (x::l)
 | []=>.refl _
 | y::l=>by
  unfold insI;split
  ·exact .refl _
  ·exact ((QlJ x l).cons y).trans (.swap _ _ _)
def QmI:∀l,(Qn0 l).Perm l
 | []=>.refl _
 | x::l=>(QlJ x _).trans ((QmI l).cons x)
def QmJ (x:Int):∀l,l.Pairwise (λa b=>a<=b)->(insI x l).Pairwise (λa b=>a<=b)
 | [],_=>pairwise_singleton _ _
 | y::l,h=>by
  obtain⟨h1,h2⟩:=pairwise_cons.1 h;unfold insI;split
  ·next hxy=>
   refine pairwise_cons.2 ⟨λb hb=>?_,h⟩;rcases Zp.1 hb with rfl | hb
   ·exact hxy
   ·exact Int.le_trans hxy (h1 b hb)
  ·refine pairwise_cons.2 ⟨λb hb=>?_,QmJ x l h2⟩;rcases Zp.1 ((QlJ x l).mem_iff.1 hb) with rfl | hb
   ·omega
   ·exact h1 b hb
def Qk7:∀l,(Qn0 l).Pairwise (λa b=>a<=b)
 | []=>.nil
 | x::l=>QmJ x _ (Qk7 l)
def Qgm (l:List Int):(Qbo l).Perm l:=mergeSort_perm _ _
def Qj6 (l:List Int):(Qbo l).Pairwise (λa b=>a<=b):=by have h:=pairwise_mergeSort (le:=λx y:Int=>decide (x<=y)) (λa b c h1 h2=>by simp only[Zo] at *;omega) (λa b=>by simp;omega) l;exact h.imp (λh=>by simpa using h)
def QvS (l:List Int):Qn0 l=Qbo l:=Perm.eq_of_pairwise (le:=λa b=>a<=b) (λa b _ _ h1 h2=>by omega) (Qk7 l) (Qj6 l) ((QmI l).trans (Qgm l).symm)

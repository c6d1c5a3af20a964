/- Package core. No condition. -/
import Derived.Test.YtlajingmjmnfgaaGreatDoorGenAll
import Derived.Test.YtlajingmjmnfgaaGreatDoorPlain
import Derived.Test.YtlajingmjmnfgaaGreatDoorSimO
set_option linter.all false
open List
namespace Go.Proofs.YtlajingmjmnfgaaGreatDoor
open Go.Sim
def insI (x:Int):List Int->List Int
 | []=>[x]
 | y::l=>if x<=y then x::y::l else y::insI x l
def Qn6:List Int->List Int
 | []=>[]
 | x::l=>insI x (Qn6 l)
def QlU (x:Int):∀l,(insI x l).Perm (x::l)
 | []=>.refl _
 | y::l=>by
  unfold insI;split
  ·exact .refl _
  ·exact ((QlU x l).cons y).trans (.swap _ _ _)
def QmX:∀l,(Qn6 l).Perm l
 | []=>.refl _
 | x::l=>(QlU x _).trans ((QmX l).cons x)
def QmY (x:Int):∀l,l.Pairwise (λa b=>a<=b)->(insI x l).Pairwise (λa b=>a<=b)
 | [],_=>pairwise_singleton _ _
 | y::l,h=>by
  obtain⟨h1,h2⟩:=pairwise_cons.1 h;unfold insI;split
  ·next hxy=>
   refine pairwise_cons.2 ⟨λb hb=>?_,h⟩;rcases Zo.1 hb with rfl | hb
   ·exact hxy
   ·exact Int.le_trans hxy (h1 b hb)
  ·refine pairwise_cons.2 ⟨λb hb=>?_,QmY x l h2⟩;rcases Zo.1 ((QlU x l).mem_iff.1 hb) with rfl | hb
   ·omega
   ·exact h1 b hb
def Qli:∀l,(Qn6 l).Pairwise (λa b=>a<=b)
 | []=>.nil
 | x::l=>QmY x _ (Qli l)
def QgA (l:List Int):(Qbp l).Perm l:=mergeSort_perm _ _
def Qki (l:List Int):(Qbp l).Pairwise (λa b=>a<=b):=by have h:=pairwise_mergeSort (le:=λx y:Int=>decide (x<=y)) (λa b c h1 h2=>by simp only[Zk] at *;omega) (λa b=>by simp;omega) l;exact h.imp (λh=>by simpa using h)
def Qwn (l:List Int):Qn6 l=Qbp l:=Perm.eq_of_pairwise (le:=λa b=>a<=b) (λa b _ _ h1 h2=>by omega) (Qli l) (Qki l) ((QmX l).trans (QgA l).symm)

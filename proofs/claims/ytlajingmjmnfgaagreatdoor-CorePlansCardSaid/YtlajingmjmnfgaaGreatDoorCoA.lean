/- Package core: what slices.Sort gives, by inserting. No condition. -/
import Derived.Test.YtlajingmjmnfgaaGreatDoorGenAll
import Derived.Test.YtlajingmjmnfgaaGreatDoorPlain
import Derived.Test.YtlajingmjmnfgaaGreatDoorSimO
set_option linter.all false
open List
namespace Go.Proofs.YtlajingmjmnfgaaGreatDoor
open Go.Sim
def insI (x:Int):List Int→List Int
 | []=>[x]
 | y::l=>if x≤y then x::y::l else y::insI x l
def QnS:List Int→List Int
 | []=>[]
 | x::l=>insI x (QnS l)
def QlC (x:Int):∀l,(insI x l).Perm (x::l)
 | []=>.refl _
 | y::l=>by
  unfold insI;split
  ·exact .refl _
  ·exact ((QlC x l).cons y).trans (.swap _ _ _)
def QmH:∀l,(QnS l).Perm l
 | []=>.refl _
 | x::l=>(QlC x _).trans ((QmH l).cons x)
def QmI (x:Int):∀l,l.Pairwise (fun a b=>a≤b)→(insI x l).Pairwise (fun a b=>a≤b)
 | [],_=>pairwise_singleton _ _
 | y::l,h=>by
  obtain⟨h1,h2⟩:=pairwise_cons.1 h;unfold insI;split
  ·next hxy=>
   refine pairwise_cons.2 ⟨fun b hb=>?_,h⟩;rcases Zm.1 hb with rfl | hb
   ·exact hxy
   ·exact Int.le_trans hxy (h1 b hb)
  ·refine pairwise_cons.2 ⟨fun b hb=>?_,QmI x l h2⟩;rcases Zm.1 ((QlC x l).mem_iff.1 hb) with rfl | hb
   ·omega
   ·exact h1 b hb
def Qk0:∀l,(QnS l).Pairwise (fun a b=>a≤b)
 | []=>.nil
 | x::l=>QmI x _ (Qk0 l)
def QfW (l:List Int):(Qbk l).Perm l:=mergeSort_perm _ _
def QjR (l:List Int):(Qbk l).Pairwise (fun a b=>a≤b):=by have h:=pairwise_mergeSort (le:=fun x y:Int=>decide (x≤y)) (fun a b c h1 h2=>by simp only[Zj] at *;omega) (fun a b=>by simp;omega) l;exact h.imp (fun h=>by simpa using h)
def Qwv (l:List Int):QnS l=Qbk l:=Perm.eq_of_pairwise (le:=fun a b=>a≤b) (fun a b _ _ h1 h2=>by omega) (Qk0 l) (QjR l) ((QmH l).trans (QfW l).symm)

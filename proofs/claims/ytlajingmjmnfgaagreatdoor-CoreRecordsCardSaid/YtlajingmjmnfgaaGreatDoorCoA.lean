/- Package core: what slices.Sort gives, by inserting. No condition. -/
import Derived.Test.YtlajingmjmnfgaaGreatDoorGenAll
import Derived.Test.YtlajingmjmnfgaaGreatDoorPlain
import Derived.Test.YtlajingmjmnfgaaGreatDoorSimO
set_option linter.all false
open List
namespace Go.Proofs.YtlajingmjmnfgaaGreatDoor
open Go.Sim
def insI (x:Int):List Int→List Int
 | []=>[x]
 | y::l=>if x≤y then x::y::l else y::insI x l
def Qmf:List Int→List Int
 | []=>[]
 | x::l=>insI x (Qmf l)
theorem Qka (x:Int):∀l,(insI x l).Perm (x::l)
 | []=>.refl _
 | y::l=>by
  unfold insI
  split
  ·exact .refl _
  ·exact ((Qka x l).cons y).trans (.swap _ _ _)
theorem Qk5:∀l,(Qmf l).Perm l
 | []=>.refl _
 | x::l=>(Qka x _).trans ((Qk5 l).cons x)
theorem Qk6 (x:Int):∀l,l.Pairwise (fun a b=>a≤b)→(insI x l).Pairwise (fun a b=>a≤b)
 | [],_=>pairwise_singleton _ _
 | y::l,h=>by
  obtain⟨h1,h2⟩:=pairwise_cons.1 h
  unfold insI
  split
  ·next hxy=>
   refine pairwise_cons.2 ⟨fun b hb=>?_,h⟩
   rcases mem_cons.1 hb with rfl | hb
   ·exact hxy
   ·exact Int.le_trans hxy (h1 b hb)
  ·refine pairwise_cons.2 ⟨fun b hb=>?_,Qk6 x l h2⟩
   rcases mem_cons.1 ((Qka x l).mem_iff.1 hb) with rfl | hb
   ·omega
   ·exact h1 b hb
theorem QjD:∀l,(Qmf l).Pairwise (fun a b=>a≤b)
 | []=>.nil
 | x::l=>Qk6 x _ (QjD l)
theorem Qfi (l:List Int):(Qa2 l).Perm l:=mergeSort_perm _ _
theorem QiE (l:List Int):(Qa2 l).Pairwise (fun a b=>a≤b):=by
 have h:=pairwise_mergeSort (le:=fun x y:Int=>decide (x≤y)) (fun a b c h1 h2=>by simp only[decide_eq_true_eq] at *;omega) (fun a b=>by simp;omega) l
 exact h.imp (fun h=>by simpa using h)
theorem Qt1 (l:List Int):Qmf l=Qa2 l:=
 Perm.eq_of_pairwise (le:=fun a b=>a≤b) (fun a b _ _ h1 h2=>by omega) (QjD l) (QiE l) ((Qk5 l).trans (Qfi l).symm)
end Go.Proofs.YtlajingmjmnfgaaGreatDoor

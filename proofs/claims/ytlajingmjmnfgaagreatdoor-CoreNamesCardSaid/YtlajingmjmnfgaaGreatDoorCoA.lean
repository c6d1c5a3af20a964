/- Package core. No condition. -/
import Derived.Test.YtlajingmjmnfgaaGreatDoorGenAll
import Derived.Test.YtlajingmjmnfgaaGreatDoorPlain
import Derived.Test.YtlajingmjmnfgaaGreatDoorSimO
set_option linter.all false
open List
namespace Go.Proofs.YtlajingmjmnfgaaGreatDoor
open Go.Sim
def insI (x:Int):List Int->List Int
 | []=>[x]
 | y::l=>if x<=y then x::y::l else y::insI x l
def QmM:List Int->List Int
 | []=>[]
 | x::l=>insI x (QmM l)
def QmN (x:Int):∀l,(insI x l).Perm (x::l)
 | []=>.refl _
 | y::l=>by
  unfold insI;split
  ·exact .refl _
  ·exact ((QmN x l).cons y).trans (.swap _ _ _)
def Qnp:∀l,(QmM l).Perm l
 | []=>.refl _
 | x::l=>(QmN x _).trans ((Qnp l).cons x)
def Qnq (x:Int):∀l,l.Pairwise (λa b=>a<=b)->(insI x l).Pairwise (λa b=>a<=b)
 | [],_=>pairwise_singleton _ _
 | y::l,h=>by
  obtain⟨h1,h2⟩:=pairwise_cons.1 h;unfold insI;split
  ·next hxy=>
   refine pairwise_cons.2 ⟨λb hb=>?_,h⟩;rcases Zo.1 hb with rfl | hb
   ·exact hxy
   ·exact Int.le_trans hxy (h1 b hb)
  ·refine pairwise_cons.2 ⟨λb hb=>?_,Qnq x l h2⟩;rcases Zo.1 ((QmN x l).mem_iff.1 hb) with rfl | hb
   ·omega
   ·exact h1 b hb
def Qmb:∀l,(QmM l).Pairwise (λa b=>a<=b)
 | []=>.nil
 | x::l=>Qnq x _ (Qmb l)
def QqY (l:List Int):(QcC l).Perm l:=mergeSort_perm _ _
def QoW (l:List Int):(QcC l).Pairwise (λa b=>a<=b):=by have h:=pairwise_mergeSort (le:=λx y:Int=>decide (x<=y)) (λa b c h1 h2=>by simp only[ZA] at *;omega) (λa b=>by simp;omega) l;exact h.imp (λh=>by simpa using h)
def Qu1 (l:List Int):QmM l=QcC l:=Perm.eq_of_pairwise (le:=λa b=>a<=b) (λa b _ _ h1 h2=>by omega) (Qmb l) (QoW l) ((Qnp l).trans (QqY l).symm)
def Qom (xs:List Int):Option (List Int):=if xs.length<1000 then some (QmM xs) else none
def Qu2 (xs:List Int):Le (Qom xs) (Qdx xs):=λr h=>by
 unfold Qom at h;unfold Qdx;split at h
 ·rw[Zb (by omega),<-Qu1];exact h
 ·cases h

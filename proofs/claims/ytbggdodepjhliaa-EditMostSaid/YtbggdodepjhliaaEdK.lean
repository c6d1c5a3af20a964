/- Edit: the greedy choice of both programs. No condition. -/
import Derived.Test.YtbggdodepjhliaaEdJ
namespace Go.Proofs.Ytbggdodepjhliaa
open Go.Sim

def seek (p:Nat→Bool):Nat→Nat→Option Nat
  | _,0=>none
  | j,g+1=>if p j=true then some j else seek p (j+1) g
theorem Qcw {p:Nat→Bool}:∀{j g r:Nat},seek p j g=some r→j≤r∧r<j+g∧p r=true
  | _,0,_,h=>by cases h
  | j,g+1,r,h=>by
    unfold seek at h
    by_cases e:p j=true
    · rw[if_pos e] at h
      obtain rfl:=Option.some.inj h
      exact⟨Nat.le_refl _,by omega,e⟩
    · rw[if_neg e] at h
      obtain⟨a,b,c⟩:=Qcw h
      exact⟨by omega,by omega,c⟩
theorem Qdh {p:Nat→Bool}:∀{j g:Nat},seek p j g=none→∀r,j≤r→r<j+g→p r=false
  | _,0,_,r,h1,h2=>absurd h2 (by omega)
  | j,g+1,h,r,h1,h2=>by
    unfold seek at h
    by_cases e:p j=true
    · rw[if_pos e] at h;cases h
    · rw[if_neg e] at h
      by_cases q:r=j
      · subst q;simpa using e
      · exact Qdh h r (by omega) (by omega)

section
variable (lo hi:Int)
def Qbd (rest:List Int) (c:Int) (used:List Int) (j:Nat):Int:=
  if (decide (QL lo hi used.length (kc rest) (up (uf used) j 1) rest.length≥0)&&((j:Int)==c))=true then QL lo hi used.length (kc rest) (up (uf used) j 1) rest.length+1 else QL lo hi used.length (kc rest) (up (uf used) j 1) rest.length
def allP (rest:List Int) (used:List Int):Int:=QL lo hi used.length (kc rest) (uf used) rest.length
def fit (rest:List Int) (c:Int) (used:List Int) (j:Nat):Bool:=decide (uf used j<hi)&&(Qbd lo hi rest c used j==allP lo hi (c::rest) used)
def more (used:List Int) (j:Nat):List Int:=used.set j (uf used j+1)
def G:List Int→List Int→List Int×List Int
  | [],used=>([],used)
  | c::rest,used=>match seek (fit lo hi rest c used) 0 used.length with
    | some j=>((j:Int)::(G rest (more used j)).1,(G rest (more used j)).2)
    | none=>G rest used
end
theorem Qba {used:List Int} {j:Nat} (h:j<used.length):uf (more used j)=up (uf used) j 1:=by
  funext i
  unfold uf more
  have:=Qbx (L:=used) (v:=(j:Int)) (y:=uf used j+1) (by omega) (by omega) (i:Int) (by omega)
  rw[Int.toNat_natCast] at this
  rw[this]
  unfold up
  by_cases e:i=j
  · subst e;rw[if_pos rfl,if_pos rfl];rfl
  · rw[if_neg (by omega),if_neg e]
theorem Q0 (used:List Int) (j:Nat):(more used j).length=used.length:=List.length_set
theorem QcV {used:List Int} {lo hi:Int} (h:Qa8 used lo hi) {j:Nat} (hj:j<used.length) (hu:uf used j<hi):Qa8 (more used j) lo hi:=by
  obtain⟨_,b1,b2,b3,b4,b5,b6⟩:=h.at hj
  refine⟨by rw[Q0];exact h.len,fun u hu'=>?_⟩
  rcases List.mem_or_eq_of_mem_set hu' with h1 | h1
  · exact h.bd u h1
  · rw[h1];omega

theorem Qhy {used:List Int} {lo hi:Int} (h:Qa8 used lo hi) {rest:List Int} (hr:rest.length≤600):-1000000≤QL lo hi used.length (kc rest) (uf used) rest.length∧QL lo hi used.length (kc rest) (uf used) rest.length≤1000000:=by
  obtain⟨⟨a1,a2⟩,⟨a3,a4⟩,_⟩:=Qdu h (k:=kc rest) (fun j=>by have:=Qae rest j;omega) used.length (Nat.le_refl _)
  have hlen:=h.len
  unfold sA at a1 a2
  unfold sK at a3 a4
  unfold QL
  split<;>omega

theorem QhU {old used:List Int} {lo hi:Int} (h:Qa8 used lo hi) (ho:old.length≤600) {i:Nat} {c:Int} {rest:List Int} (hd:old.drop i=c::rest) {j:Nat} (hj:j<used.length):
    QaW (j:Int) ⟨old,used,lo,hi⟩ (i:Int) c (allP lo hi (c::rest) used)=some (fit lo hi rest c used j,⟨old,if fit lo hi rest c used j=true then more used j else used,lo,hi⟩):=by
  obtain⟨e,b1,b2,b3,b4,b5,b6⟩:=h.at hj
  have hil:i<old.length:=by
    have:=congrArg List.length hd
    rw[List.length_drop,List.length_cons] at this
    omega
  have hrest:old.drop (i+1)=rest:=by
    have:=congrArg List.tail hd
    rw[List.tail_drop] at this
    exact this
  unfold QaW
  dsimp only
  have ei:idx used (j:Int)=some (uf used j):=by rw[Qdr,e]
  rw[ei]
  simp only[Option.bind_some]
  by_cases hu:uf used j≥hi
  · rw[if_pos (decide_eq_true hu)]
    have:fit lo hi rest c used j=false:=by unfold fit;rw[decide_eq_false (by omega)];rfl
    rw[this,if_neg (by decide)]
  · rw[if_neg (by rw[decide_eq_false hu];decide),w64 (by omega) (by omega),Qfj hj]
    simp only[Option.bind_some]
    have em:used.set j (uf used j+1)=more used j:=rfl
    have ew:IntKind.i64.wrap ((i:Int)+1)=((i+1:Nat):Int):=by rw[w64 (by omega) (by omega)];rfl
    rw[em,ew,QfP (QcV h hj (by omega)) ho (by omega),hrest,Qba hj,Q0]
    simp only[Option.bind_some]
    have hall:∀y:Int,-1000000≤y→y≤1000000→((if (decide (y≥0)&&((j:Int)==c))=true then some (IntKind.i64.wrap (y+1)) else some y):Option Int)=some (if (decide (y≥0)&&((j:Int)==c))=true then y+1 else y):=fun y y0 y1=>by
      split
      · rw[w64 (by omega) (by omega)]
      · rfl
    have hb:=Qhy (QcV h hj (by omega)) (rest:=rest) (by
      have:=congrArg List.length hrest
      rw[List.length_drop] at this
      omega)
    rw[Qba hj,Q0] at hb
    rw[hall _ hb.1 hb.2]
    have es:(if (decide (QL lo hi used.length (kc rest) (up (uf used) j 1) rest.length≥0)&&((j:Int)==c))=true then QL lo hi used.length (kc rest) (up (uf used) j 1) rest.length+1 else QL lo hi used.length (kc rest) (up (uf used) j 1) rest.length)=Qbd lo hi rest c used j:=rfl
    rw[es]
    simp only[Option.bind_some]
    have ef:fit lo hi rest c used j=(Qbd lo hi rest c used j==allP lo hi (c::rest) used):=by unfold fit;rw[decide_eq_true (by omega),Bool.true_and]
    rw[ef]
    by_cases hs:Qbd lo hi rest c used j=allP lo hi (c::rest) used
    · rw[hs]
      simp
    · have h1:(Qbd lo hi rest c used j !=allP lo hi (c::rest) used)=true:=by simpa using hs
      have h2:(Qbd lo hi rest c used j==allP lo hi (c::rest) used)=false:=by simpa using hs
      rw[if_pos h1,h2,if_neg (by decide)]
      have hjm:j<(more used j).length:=by rw[Q0];exact hj
      have e1:idx (more used j) (j:Int)=some (uf used j+1):=by
        rw[Qeb (by omega) (by omega)]
        have:=congrFun (Qba hj) j
        rw[Q9] at this
        exact congrArg some this
      rw[e1]
      simp only[Option.bind_some]
      rw[w64 (by omega) (by omega),Qfj hjm]
      simp only[Option.bind_some]
      have e2:(more used j).set j (uf used j+1 - 1)=used:=by
        unfold more
        rw[List.set_set,show uf used j+1 - 1=uf used j by omega]
        have:uf used j=used[j]:=by unfold uf lv;rw[Int.toNat_natCast,List.getElem?_eq_getElem hj];rfl
        rw[this,List.set_getElem_self]
      rw[e2]

end Go.Proofs.Ytbggdodepjhliaa

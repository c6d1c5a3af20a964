/- Edit: the reference's Refs, and its flow. No condition. -/
import Derived.Test.YtbggdodepjhliaaEdQ
namespace Go.Proofs.Ytbggdodepjhliaa
open Go.Sim

theorem Qcy {l:List Int} (h:l.length≤1000000000):QM l l=some true:=by
  have key:Ok (QM l l) (fun r=>r=true):=by
    unfold QM
    rw[if_neg (by simp)]
    refine Ok.bind (P:=fun r=>r=.inl ()) (Ok.loop (fun g s=>∃i:Nat,s=i∧i+g=l.length) l.length ⟨0,rfl,by omega⟩ fun g s hs=>?_) fun r hr=>by subst hr;exact Ok.mk rfl
    obtain⟨i,h1,h2⟩:=hs
    subst h1
    refine Ok.ite (fun hi=>?_) (fun _=>Ok.mk rfl)
    have hi:(i:Int)<l.length:=of_decide_eq_true hi
    have hil:i<l.length:=by omega
    rw[idx_lt hil]
    simp only[Option.bind_some]
    rw[if_neg (by simp)]
    exact Ok.mk ⟨g - 1,by omega,i+1,by rw[w64 (by omega) (by omega)];rfl,by omega⟩
  obtain⟨r,hr,rfl⟩:=key
  exact hr

end Go.Proofs.Ytbggdodepjhliaa

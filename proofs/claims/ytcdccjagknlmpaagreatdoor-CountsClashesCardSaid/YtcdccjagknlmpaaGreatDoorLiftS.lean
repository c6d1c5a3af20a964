/- From the row's data to the logic's types: a struct of three numbers and a truth value. No condition. -/
import Derived.Test.YtcdccjagknlmpaaGreatDoorLift
import Derived.Lib.SmallJoins
namespace Go.Sim
open Go.ChangeShapes Go.WideShapes Go.ChangeAt Go.RowKit Go.Joins Go.Deep

theorem lift_lim {H : Type} {enc : TypeId × Value → H} {P : Program} {W : World} {base : Nat} {t : TypeId} {f0 f1 f2 f3 : Field} {v : Value} {d : DataW H} {ps : List MemPlace} {held : Bool} {spare : Nat → Bool} {b0 : Nat}
    (hs : P.underlying t = some (.struct #[f0,f1,f2,f3])) (hone : oneCellFields P #[f0,f1,f2,f3] = true) (hC : P.cellsOf t = 4) (h0 : P.underlying f0.type = some (.int .i64)) (h1 : P.underlying f1.type = some (.int .i64)) (h2 : P.underlying f2.type = some (.int .i64))
    (h3 : P.underlying f3.type = some .bool) (hval : Value.okWide P W .any b0 t v) (hd : DataW.Trod enc P W base spare held t v d ps) :
    ∃ (a b c : Int) (l : Bool),(I64 a ∧ I64 b ∧ I64 c) ∧ ∀ F w,(tagg [tv (.int .i64 a),tv (.int .i64 b),tv (.int .i64 c),tv (.bool l)]).ok F w v := by
  obtain ⟨v0,v1,v2,v3,y0,y1,y2,y3,n,rfl,_,_,g0,g1,g2,g3⟩ := open_agg4 hs hone hC hval hd
  obtain ⟨a,ha,_,wa⟩ := DataW.trod_int h0 g0
  obtain ⟨b,hb,_,wb⟩ := DataW.trod_int h1 g1
  obtain ⟨c,hc,_,wc⟩ := DataW.trod_int h2 g2
  obtain ⟨l,hl,_⟩ := DataW.trod_bool h3 g3
  simp only [List.cons.injEq,and_true] at ha hb hc hl
  subst ha hb hc hl
  exact ⟨a,b,c,l,⟨i64_of_wf wa,i64_of_wf wb,i64_of_wf wc⟩,fun F w => ⟨_,rfl,.cons rfl (.cons rfl (.cons rfl (.cons rfl .nil)))⟩⟩

end Go.Sim

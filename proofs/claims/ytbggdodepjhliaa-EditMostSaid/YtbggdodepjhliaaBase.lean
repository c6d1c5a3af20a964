/- Closed facts on the types and functions of the translation, written by a program. No condition. -/
import Derived.Test.YtbggdodepjhliaaSimMap
import Derived.Test.YtbggdodepjhliaaRows
namespace Go.Proofs.Ytbggdodepjhliaa
open Go.Sim

theorem Qgb:Try.prog.follows .mixedOrders=true:=by kernel_rfl
theorem mx:Try.prog.follows .mixedOrders=true:=Qgb
theorem tok3:TOk Try.prog 3 rI 8 (.int .i64 0):=⟨⟨_,Try.underlying3,rfl⟩,by kernel_rfl,rfl⟩
theorem zok3:∀F w,(rI.ty (0:Int)).ok F w (.int .i64 0):=fun _ _=>rfl
theorem QaF:TOk Try.prog 22 (rSl rI) 24 (.slice none 0 0):=⟨⟨_,Try.underlying22,rfl⟩,by kernel_rfl,rfl⟩
structure Qw where
  Flow:(List Int)
  Level:(List Int)
deriving Inhabited
@[reducible] def Qf : Rep Qw := ⟨fun x => ([tsl rI x.Flow,tsl rI x.Level]),2,true,fun _ => rfl,fun _ => (Qt Qbm (Qt Qbm Qbn)),fun h => (by cases h)⟩
theorem QO:TOk Try.prog 31 Qf 48 (.agg #[(.slice none 0 0),(.slice none 0 0)]):=⟨⟨_,Try.underlying31,rfl⟩,by kernel_rfl,rfl⟩
theorem zc31:∀F w,Qk (Qf.cs (Qw.mk ([]:(List Int)) ([]:(List Int)))) F w ((.agg #[(.slice none 0 0),(.slice none 0 0)]):Value).cells.toList:=fun _ _=>(.cons ⟨none,0,rfl,Nat.le_refl _,fun h=>(h rfl).elim⟩ (.cons ⟨none,0,rfl,Nat.le_refl _,fun h=>(h rfl).elim⟩ .nil))
theorem Qct:∀F w,(Qf.ty (Qw.mk ([]:(List Int)) ([]:(List Int)))).ok F w (.agg #[(.slice none 0 0),(.slice none 0 0)]):=fun F w=>⟨_,rfl,zc31 F w⟩
theorem zv31:(Try.prog.info? 31).bind (·.zero)=some (.agg #[(.slice none 0 0),(.slice none 0 0)]):=by kernel_rfl
theorem pl31 : ∀ w, ((#[⟨"Flow", 22, 0, false, "", "", 0⟩, ⟨"Level", 22, 1, false, "", "", 24⟩] : Array Field).mapM (fun f => do pure (f.offset, ← sizeOf f.type) : Field → Sem (Nat × Nat))).run Try.prog w = .ok #[(0, 1), (1, 1)] w := fun _ => by kernel_rfl
structure Qb where
  From:Int
  To:Int
  Lo:Int
  Hi:Int
  Cost:Int
deriving Inhabited
@[reducible] def Qe : Rep Qb := ⟨fun x => ([ti x.From,ti x.To,ti x.Lo,ti x.Hi,ti x.Cost]),5,true,fun _ => rfl,fun _ => (Qt (Qar rfl) (Qt (Qar rfl) (Qt (Qar rfl) (Qt (Qar rfl) (Qt (Qar rfl) Qbn))))),fun h => (by cases h)⟩
theorem QaT:TOk Try.prog 48 Qe 40 (.agg #[(.int .i64 0),(.int .i64 0),(.int .i64 0),(.int .i64 0),(.int .i64 0)]):=⟨⟨_,Try.underlying48,rfl⟩,by kernel_rfl,rfl⟩
theorem zc48:∀F w,Qk (Qe.cs (Qb.mk (0:Int) (0:Int) (0:Int) (0:Int) (0:Int))) F w ((.agg #[(.int .i64 0),(.int .i64 0),(.int .i64 0),(.int .i64 0),(.int .i64 0)]):Value).cells.toList:=fun _ _=>(.cons rfl (.cons rfl (.cons rfl (.cons rfl (.cons rfl .nil)))))
theorem zok48:∀F w,(Qe.ty (Qb.mk (0:Int) (0:Int) (0:Int) (0:Int) (0:Int))).ok F w (.agg #[(.int .i64 0),(.int .i64 0),(.int .i64 0),(.int .i64 0),(.int .i64 0)]):=fun F w=>⟨_,rfl,zc48 F w⟩
theorem zv48:(Try.prog.info? 48).bind (·.zero)=some (.agg #[(.int .i64 0),(.int .i64 0),(.int .i64 0),(.int .i64 0),(.int .i64 0)]):=by kernel_rfl
theorem pl48 : ∀ w, ((#[⟨"From", 3, 0, false, "", "", 0⟩, ⟨"To", 3, 1, false, "", "", 8⟩, ⟨"Lo", 3, 2, false, "", "", 16⟩, ⟨"Hi", 3, 3, false, "", "", 24⟩, ⟨"Cost", 3, 4, false, "", "", 32⟩] : Array Field).mapM (fun f => do pure (f.offset, ← sizeOf f.type) : Field → Sem (Nat × Nat))).run Try.prog w = .ok #[(0, 1), (1, 1), (2, 1), (3, 1), (4, 1)] w := fun _ => by kernel_rfl
theorem QeW:TOk Try.prog 43 (rSl Qe) 24 (.slice none 0 0):=⟨⟨_,Try.underlying43,rfl⟩,by kernel_rfl,rfl⟩
structure Qx where
  old:(List Int)
  used:(List Int)
  lo:Int
  hi:Int
deriving Inhabited
@[reducible] def QP : Rep Qx := ⟨fun x => ([tsl rI x.old,tsl rI x.used,ti x.lo,ti x.hi]),4,true,fun _ => rfl,fun _ => (Qt Qbm (Qt Qbm (Qt (Qar rfl) (Qt (Qar rfl) Qbn)))),fun h => (by cases h)⟩
theorem zc54:∀F w,Qk (QP.cs (Qx.mk ([]:(List Int)) ([]:(List Int)) (0:Int) (0:Int))) F w ((.agg #[(.slice none 0 0),(.slice none 0 0),(.int .i64 0),(.int .i64 0)]):Value).cells.toList:=fun _ _=>(.cons ⟨none,0,rfl,Nat.le_refl _,fun h=>(h rfl).elim⟩ (.cons ⟨none,0,rfl,Nat.le_refl _,fun h=>(h rfl).elim⟩ (.cons rfl (.cons rfl .nil))))
theorem zv54:(Try.prog.info? 54).bind (·.zero)=some (.agg #[(.slice none 0 0),(.slice none 0 0),(.int .i64 0),(.int .i64 0)]):=by kernel_rfl
theorem pl54 : ∀ w, ((#[⟨"old", 22, 0, false, "", "diorama/edit", 0⟩, ⟨"used", 22, 1, false, "", "diorama/edit", 24⟩, ⟨"lo", 3, 2, false, "", "diorama/edit", 48⟩, ⟨"hi", 3, 3, false, "", "diorama/edit", 56⟩] : Array Field).mapM (fun f => do pure (f.offset, ← sizeOf f.type) : Field → Sem (Nat × Nat))).run Try.prog w = .ok #[(0, 1), (1, 1), (2, 1), (3, 1)] w := fun _ => by kernel_rfl
@[reducible] def tF56 (p : (Int → Option Bool)) : Ty := tfn Try.prog [] (A := Int) (B := Bool) (fun x => [ti x]) (fun y => tb y) (p)
@[reducible] def rF56 : Rep (Int → Option Bool) := ⟨fun p => [tF56 p],1,false,fun _ => rfl,fun _ => Qt QfG Qbn,fun _ => rfl⟩
theorem Qgc:TOk Try.prog 56 rF56 8 .nilFunc:=⟨⟨_,Try.underlying56,rfl⟩,by kernel_rfl,rfl⟩
structure Qc where
  edge:Int
  from':Int
  to:Int
  cost:Int
  forward:Int
deriving Inhabited
@[reducible] def Qd : Rep Qc := ⟨fun x => ([ti x.edge,ti x.from',ti x.to,ti x.cost,ti x.forward]),5,true,fun _ => rfl,fun _ => (Qt (Qar rfl) (Qt (Qar rfl) (Qt (Qar rfl) (Qt (Qar rfl) (Qt (Qar rfl) Qbn))))),fun h => (by cases h)⟩
theorem QQ:TOk Try.prog 83 Qd 40 (.agg #[(.int .i64 0),(.int .i64 0),(.int .i64 0),(.int .i64 0),(.int .i64 0)]):=⟨⟨_,Try.underlying83,rfl⟩,by kernel_rfl,rfl⟩
theorem zc83:∀F w,Qk (Qd.cs (Qc.mk (0:Int) (0:Int) (0:Int) (0:Int) (0:Int))) F w ((.agg #[(.int .i64 0),(.int .i64 0),(.int .i64 0),(.int .i64 0),(.int .i64 0)]):Value).cells.toList:=fun _ _=>(.cons rfl (.cons rfl (.cons rfl (.cons rfl (.cons rfl .nil)))))
theorem QbK:∀F w,(Qd.ty (Qc.mk (0:Int) (0:Int) (0:Int) (0:Int) (0:Int))).ok F w (.agg #[(.int .i64 0),(.int .i64 0),(.int .i64 0),(.int .i64 0),(.int .i64 0)]):=fun F w=>⟨_,rfl,zc83 F w⟩
theorem zv83:(Try.prog.info? 83).bind (·.zero)=some (.agg #[(.int .i64 0),(.int .i64 0),(.int .i64 0),(.int .i64 0),(.int .i64 0)]):=by kernel_rfl
theorem pl83 : ∀ w, ((#[⟨"edge", 3, 0, false, "", "diorama/flow", 0⟩, ⟨"from", 3, 1, false, "", "diorama/flow", 8⟩, ⟨"to", 3, 2, false, "", "diorama/flow", 16⟩, ⟨"cost", 3, 3, false, "", "diorama/flow", 24⟩, ⟨"forward", 3, 4, false, "", "diorama/flow", 32⟩] : Array Field).mapM (fun f => do pure (f.offset, ← sizeOf f.type) : Field → Sem (Nat × Nat))).run Try.prog w = .ok #[(0, 1), (1, 1), (2, 1), (3, 1), (4, 1)] w := fun _ => by kernel_rfl
theorem Qgd:TOk Try.prog 68 (rSl Qd) 24 (.slice none 0 0):=⟨⟨_,Try.underlying68,rfl⟩,by kernel_rfl,rfl⟩
structure Qg where
  n:Int
  l:(List Qb)
  flow:(List Int)
  arcs:(List Qc)
deriving Inhabited
@[reducible] def QW : Rep Qg := ⟨fun x => ([ti x.n,tsl Qe x.l,tsl rI x.flow,tsl Qd x.arcs]),4,true,fun _ => rfl,fun _ => (Qt (Qar rfl) (Qt Qbm (Qt Qbm (Qt Qbm Qbn)))),fun h => (by cases h)⟩
theorem zv70:(Try.prog.info? 70).bind (·.zero)=some (.agg #[(.int .i64 0),(.slice none 0 0),(.slice none 0 0),(.slice none 0 0)]):=by kernel_rfl
theorem pl70 : ∀ w, ((#[⟨"n", 3, 0, false, "", "diorama/flow", 0⟩, ⟨"l", 43, 1, false, "", "diorama/flow", 8⟩, ⟨"flow", 22, 2, false, "", "diorama/flow", 32⟩, ⟨"arcs", 68, 3, false, "", "diorama/flow", 56⟩] : Array Field).mapM (fun f => do pure (f.offset, ← sizeOf f.type) : Field → Sem (Nat × Nat))).run Try.prog w = .ok #[(0, 1), (1, 1), (2, 1), (3, 1)] w := fun _ => by kernel_rfl
theorem Qhr:(∀F w,Qk ([ti (0:Int),tsl Qe ([]:(List Qb)),tsl rI ([]:(List Int)),tvs nilV]) F w ((.agg #[(.int .i64 0),(.slice none 0 0),(.slice none 0 0),(.slice none 0 0)]):Value).cells.toList)∧([ti (0:Int),tsl Qe ([]:(List Qb)),tsl rI ([]:(List Int)),tvs nilV]).length=4∧QW.agg=true∧∃cs,((.agg #[(.int .i64 0),(.slice none 0 0),(.slice none 0 0),(.slice none 0 0)]):Value)=.agg cs:=⟨fun _ _=>(.cons rfl (.cons ⟨none,0,rfl,Nat.le_refl _,fun h=>(h rfl).elim⟩ (.cons ⟨none,0,rfl,Nat.le_refl _,fun h=>(h rfl).elim⟩ (.cons ⟨rfl,rfl⟩ .nil)))),rfl,rfl,_,rfl⟩
@[reducible] def tF79 (p : (Qb → Option Bool)) : Ty := tfn Try.prog [] (A := Qb) (B := Bool) (fun x => [Qe.ty x]) (fun y => tb y) (p)
@[reducible] def rF79 : Rep (Qb → Option Bool) := ⟨fun p => [tF79 p],1,false,fun _ => rfl,fun _ => Qt QfG Qbn,fun _ => rfl⟩
theorem Qbs:TOk Try.prog 22 rVal 24 (.slice none 0 0):=⟨⟨_,Try.underlying22,rfl⟩,by kernel_rfl,rfl⟩
theorem QgF:TOk Try.prog 68 rVal 24 (.slice none 0 0):=⟨⟨_,Try.underlying68,rfl⟩,by kernel_rfl,rfl⟩
theorem Qcf:Qn Try.prog 31 0 0:=Qn.mk Try.underlying31 rfl rfl QaF (by decide)
theorem Qdm:Qn Try.prog 48 0 0:=Qn.mk Try.underlying48 rfl rfl tok3 (by decide)
theorem Qdn:Qn Try.prog 48 1 1:=Qn.mk Try.underlying48 rfl rfl tok3 (by decide)
theorem Qdo:Qn Try.prog 48 2 2:=Qn.mk Try.underlying48 rfl rfl tok3 (by decide)
theorem Qeq:Qn Try.prog 48 3 3:=Qn.mk Try.underlying48 rfl rfl tok3 (by decide)
theorem Qdp:Qn Try.prog 48 4 4:=Qn.mk Try.underlying48 rfl rfl tok3 (by decide)
theorem QcG:Qn Try.prog 54 0 0:=Qn.mk Try.underlying54 rfl rfl QaF (by decide)
theorem Qcg:Qn Try.prog 54 1 1:=Qn.mk Try.underlying54 rfl rfl QaF (by decide)
theorem QfJ:Qn Try.prog 54 2 2:=Qn.mk Try.underlying54 rfl rfl tok3 (by decide)
theorem Qer:Qn Try.prog 54 3 3:=Qn.mk Try.underlying54 rfl rfl tok3 (by decide)
theorem QcH:Qn Try.prog 70 0 0:=Qn.mk Try.underlying70 rfl rfl tok3 (by decide)
theorem Qes:Qn Try.prog 70 1 1:=Qn.mk Try.underlying70 rfl rfl QeW (by decide)
theorem QbO:Qn Try.prog 70 2 2:=Qn.mk Try.underlying70 rfl rfl QaF (by decide)
theorem Qdq:Qn Try.prog 70 3 3:=Qn.mk Try.underlying70 rfl rfl Qgd (by decide)
theorem QcI:Qn Try.prog 83 0 0:=Qn.mk Try.underlying83 rfl rfl tok3 (by decide)
theorem QcJ:Qn Try.prog 83 1 1:=Qn.mk Try.underlying83 rfl rfl tok3 (by decide)
theorem QbH:Qn Try.prog 83 2 2:=Qn.mk Try.underlying83 rfl rfl tok3 (by decide)
theorem QfK:Qn Try.prog 83 3 3:=Qn.mk Try.underlying83 rfl rfl tok3 (by decide)
theorem QfL:Qn Try.prog 83 4 4:=Qn.mk Try.underlying83 rfl rfl tok3 (by decide)
theorem Qff:∀x,Qbc (Qd.ty x):=fun x=>Qhg (by intro T h;simp at h;rcases h with h | h | h | h | h<;>subst h<;>exact Qaj)
theorem Qhs:QgB Try.prog 83 1 1:=⟨_,_,_,Try.underlying83,rfl,rfl,Try.underlying3,rfl⟩
theorem call6:Qp Try.prog 6:=⟨⟨_,Try.func6,by kernel_rfl,rfl⟩⟩
theorem call8:Qp Try.prog 8:=⟨⟨_,Try.func8,by kernel_rfl,rfl⟩⟩
theorem Qd6:Qp Try.prog 9:=⟨⟨_,Try.func9,by kernel_rfl,rfl⟩⟩
theorem Qdc:Qp Try.prog 11:=⟨⟨_,Try.func11,by kernel_rfl,rfl⟩⟩
theorem call13:Qp Try.prog 13:=⟨⟨_,Try.func13,by kernel_rfl,rfl⟩⟩
theorem QgG:Qp Try.prog 15:=⟨⟨_,Try.func15,by kernel_rfl,rfl⟩⟩
theorem Qd7:Qp Try.prog 18:=⟨⟨_,Try.func18,by kernel_rfl,rfl⟩⟩
theorem call19:Qp Try.prog 19:=⟨⟨_,Try.func19,by kernel_rfl,rfl⟩⟩
theorem QgH:Qp Try.prog 20:=⟨⟨_,Try.func20,by kernel_rfl,rfl⟩⟩
theorem call21:Qp Try.prog 21:=⟨⟨_,Try.func21,by kernel_rfl,rfl⟩⟩
theorem call22:Qp Try.prog 22:=⟨⟨_,Try.func22,by kernel_rfl,rfl⟩⟩
theorem call23:Qp Try.prog 23:=⟨⟨_,Try.func23,by kernel_rfl,rfl⟩⟩
theorem call28:Qp Try.prog 28:=⟨⟨_,Try.func28,by kernel_rfl,rfl⟩⟩
theorem call31:Qp Try.prog 31:=⟨⟨_,Try.func31,by kernel_rfl,rfl⟩⟩
theorem call33:Qp Try.prog 33:=⟨⟨_,Try.func33,by kernel_rfl,rfl⟩⟩
theorem call34:Qp Try.prog 34:=⟨⟨_,Try.func34,by kernel_rfl,rfl⟩⟩
theorem call35:Qp Try.prog 35:=⟨⟨_,Try.func35,by kernel_rfl,rfl⟩⟩
theorem QgI:Qp Try.prog 36:=⟨⟨_,Try.func36,by kernel_rfl,rfl⟩⟩
theorem call39:Qp Try.prog 39:=⟨⟨_,Try.func39,by kernel_rfl,rfl⟩⟩
theorem call40:Qp Try.prog 40:=⟨⟨_,Try.func40,by kernel_rfl,rfl⟩⟩
theorem call41:Qp Try.prog 41:=⟨⟨_,Try.func41,by kernel_rfl,rfl⟩⟩
theorem call43:Qp Try.prog 43:=⟨⟨_,Try.func43,by kernel_rfl,rfl⟩⟩
theorem Qfg:Qp Try.prog 45:=⟨⟨_,Try.func45,by kernel_rfl,rfl⟩⟩
theorem QgJ:Qp Try.prog 46:=⟨⟨_,Try.func46,by kernel_rfl,rfl⟩⟩
theorem call47:Qp Try.prog 47:=⟨⟨_,Try.func47,by kernel_rfl,rfl⟩⟩
theorem call48:Qp Try.prog 48:=⟨⟨_,Try.func48,by kernel_rfl,rfl⟩⟩
theorem call49:Qp Try.prog 49:=⟨⟨_,Try.func49,by kernel_rfl,rfl⟩⟩
theorem tok73:TOk Try.prog 73 (rMp Qd) 8 (.map none):=⟨⟨_,Try.underlying73,rfl⟩,by kernel_rfl,rfl⟩
theorem QhT:TOk Try.prog 56 rVal 8 .nilFunc:=⟨⟨_,Try.underlying56,rfl⟩,by kernel_rfl,rfl⟩
theorem Qbt:TOk Try.prog 51 rVal 8 (.pointer none):=⟨⟨_,Try.underlying51,rfl⟩,by kernel_rfl,rfl⟩
theorem QgK:TOk Try.prog 67 rVal 8 (.pointer none):=⟨⟨_,Try.underlying67,rfl⟩,by kernel_rfl,rfl⟩
section
variable {M:Fr} {w0:World} {n:Nat} {Γ:List (Nat×Ty)} {As:List Atom} {a:Act} {w:World}
theorem _root_.Go.Sim.St.t1_0 {x0:Nat×Ty} (h:St M w0 n Γ As a w) (is:List Nat) (p:QaJ Γ is=[x0]:=by exact rfl) (q:As=[]:=by exact rfl):St M w0 n [x0] [] a w:=h.to is _ _ p q
theorem _root_.Go.Sim.St.t2_0 {x0 x1:Nat×Ty} (h:St M w0 n Γ As a w) (is:List Nat) (p:QaJ Γ is=[x0,x1]:=by exact rfl) (q:As=[]:=by exact rfl):St M w0 n [x0,x1] [] a w:=h.to is _ _ p q
theorem _root_.Go.Sim.St.t3_0 {x0 x1 x2:Nat×Ty} (h:St M w0 n Γ As a w) (is:List Nat) (p:QaJ Γ is=[x0,x1,x2]:=by exact rfl) (q:As=[]:=by exact rfl):St M w0 n [x0,x1,x2] [] a w:=h.to is _ _ p q
theorem _root_.Go.Sim.St.t3_1 {x0 x1 x2:Nat×Ty} {y0:Atom} (h:St M w0 n Γ As a w) (is:List Nat) (p:QaJ Γ is=[x0,x1,x2]:=by exact rfl) (q:As=[y0]:=by exact rfl):St M w0 n [x0,x1,x2] [y0] a w:=h.to is _ _ p q
theorem _root_.Go.Sim.St.t4_0 {x0 x1 x2 x3:Nat×Ty} (h:St M w0 n Γ As a w) (is:List Nat) (p:QaJ Γ is=[x0,x1,x2,x3]:=by exact rfl) (q:As=[]:=by exact rfl):St M w0 n [x0,x1,x2,x3] [] a w:=h.to is _ _ p q
theorem _root_.Go.Sim.St.t4_3 {x0 x1 x2 x3:Nat×Ty} {y0 y1 y2:Atom} (h:St M w0 n Γ As a w) (is:List Nat) (p:QaJ Γ is=[x0,x1,x2,x3]:=by exact rfl) (q:As=[y0,y1,y2]:=by exact rfl):St M w0 n [x0,x1,x2,x3] [y0,y1,y2] a w:=h.to is _ _ p q
theorem _root_.Go.Sim.St.t5_1 {x0 x1 x2 x3 x4:Nat×Ty} {y0:Atom} (h:St M w0 n Γ As a w) (is:List Nat) (p:QaJ Γ is=[x0,x1,x2,x3,x4]:=by exact rfl) (q:As=[y0]:=by exact rfl):St M w0 n [x0,x1,x2,x3,x4] [y0] a w:=h.to is _ _ p q
theorem _root_.Go.Sim.St.t6_1 {x0 x1 x2 x3 x4 x5:Nat×Ty} {y0:Atom} (h:St M w0 n Γ As a w) (is:List Nat) (p:QaJ Γ is=[x0,x1,x2,x3,x4,x5]:=by exact rfl) (q:As=[y0]:=by exact rfl):St M w0 n [x0,x1,x2,x3,x4,x5] [y0] a w:=h.to is _ _ p q
theorem _root_.Go.Sim.St.t6_2 {x0 x1 x2 x3 x4 x5:Nat×Ty} {y0 y1:Atom} (h:St M w0 n Γ As a w) (is:List Nat) (p:QaJ Γ is=[x0,x1,x2,x3,x4,x5]:=by exact rfl) (q:As=[y0,y1]:=by exact rfl):St M w0 n [x0,x1,x2,x3,x4,x5] [y0,y1] a w:=h.to is _ _ p q
theorem _root_.Go.Sim.St.t6_3 {x0 x1 x2 x3 x4 x5:Nat×Ty} {y0 y1 y2:Atom} (h:St M w0 n Γ As a w) (is:List Nat) (p:QaJ Γ is=[x0,x1,x2,x3,x4,x5]:=by exact rfl) (q:As=[y0,y1,y2]:=by exact rfl):St M w0 n [x0,x1,x2,x3,x4,x5] [y0,y1,y2] a w:=h.to is _ _ p q
theorem _root_.Go.Sim.St.t7_1 {x0 x1 x2 x3 x4 x5 x6:Nat×Ty} {y0:Atom} (h:St M w0 n Γ As a w) (is:List Nat) (p:QaJ Γ is=[x0,x1,x2,x3,x4,x5,x6]:=by exact rfl) (q:As=[y0]:=by exact rfl):St M w0 n [x0,x1,x2,x3,x4,x5,x6] [y0] a w:=h.to is _ _ p q
theorem _root_.Go.Sim.St.t8_1 {x0 x1 x2 x3 x4 x5 x6 x7:Nat×Ty} {y0:Atom} (h:St M w0 n Γ As a w) (is:List Nat) (p:QaJ Γ is=[x0,x1,x2,x3,x4,x5,x6,x7]:=by exact rfl) (q:As=[y0]:=by exact rfl):St M w0 n [x0,x1,x2,x3,x4,x5,x6,x7] [y0] a w:=h.to is _ _ p q
theorem _root_.Go.Sim.St.t8_2 {x0 x1 x2 x3 x4 x5 x6 x7:Nat×Ty} {y0 y1:Atom} (h:St M w0 n Γ As a w) (is:List Nat) (p:QaJ Γ is=[x0,x1,x2,x3,x4,x5,x6,x7]:=by exact rfl) (q:As=[y0,y1]:=by exact rfl):St M w0 n [x0,x1,x2,x3,x4,x5,x6,x7] [y0,y1] a w:=h.to is _ _ p q
theorem _root_.Go.Sim.St.t9_4 {x0 x1 x2 x3 x4 x5 x6 x7 x8:Nat×Ty} {y0 y1 y2 y3:Atom} (h:St M w0 n Γ As a w) (is:List Nat) (p:QaJ Γ is=[x0,x1,x2,x3,x4,x5,x6,x7,x8]:=by exact rfl) (q:As=[y0,y1,y2,y3]:=by exact rfl):St M w0 n [x0,x1,x2,x3,x4,x5,x6,x7,x8] [y0,y1,y2,y3] a w:=h.to is _ _ p q
theorem _root_.Go.Sim.St.t11_4 {x0 x1 x2 x3 x4 x5 x6 x7 x8 x9 x10:Nat×Ty} {y0 y1 y2 y3:Atom} (h:St M w0 n Γ As a w) (is:List Nat) (p:QaJ Γ is=[x0,x1,x2,x3,x4,x5,x6,x7,x8,x9,x10]:=by exact rfl) (q:As=[y0,y1,y2,y3]:=by exact rfl):St M w0 n [x0,x1,x2,x3,x4,x5,x6,x7,x8,x9,x10] [y0,y1,y2,y3] a w:=h.to is _ _ p q
end
abbrev zz0:Qw:=(Qw.mk ([]:(List Int)) ([]:(List Int)))
abbrev zz1:Qb:=(Qb.mk (0:Int) (0:Int) (0:Int) (0:Int) (0:Int))
abbrev zz2:Qc:=(Qc.mk (0:Int) (0:Int) (0:Int) (0:Int) (0:Int))
abbrev ud22:=Try.underlying22
abbrev ud3:=Try.underlying3
abbrev ud31:=Try.underlying31
abbrev ud43:=Try.underlying43
abbrev ud48:=Try.underlying48
abbrev ud68:=Try.underlying68
abbrev ud73:=Try.underlying73

end Go.Proofs.Ytbggdodepjhliaa

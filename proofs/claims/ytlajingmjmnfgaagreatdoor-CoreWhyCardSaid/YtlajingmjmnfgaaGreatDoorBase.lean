/- Closed facts on the types and functions of the translation. No condition. -/
import Derived.Test.YtlajingmjmnfgaaGreatDoorSimX
import Derived.Test.YtlajingmjmnfgaaGreatDoorRows
set_option linter.all false
open Go.Proofs.Tryz
namespace Go.Proofs.YtlajingmjmnfgaaGreatDoor
open Go.Sim
def mixed:prog.follows .mixedOrders=true:=by kernel_rfl
def mx:prog.follows .mixedOrders=true:=mixed
def QhT:List (Value×Value):=[(.int .i64 0,.agg #[.func (.func 263) #[] #[]]),(.int .i64 1,.agg #[.func (.func 264) #[] #[]]),(.int .i64 4,.agg #[.func (.func 265) #[] #[]]),(.int .i64 5,.agg #[.func (.func 266) #[] #[]]),(.int .i64 6,.agg #[.func (.func 268) #[] #[]]),(.int .i64 7,.agg #[.func (.func 270) #[] #[]]),(.int .i64 8,.agg #[.func (.func 272) #[] #[]])]
def QuW:Ty:=Qmc QhT
def QtB:List Ty:=[QuW]
def tokM0:TOk prog 161 (rMapC QhT) 8 (.map none):=⟨⟨_,underlying161,rfl⟩,(by kernel_rfl:(prog.info? 161).map (λi=>(i.zero,i.size,i.bytes))=some (some (.map none),1,8)),rfl⟩
def QjZ:List Str:=[[107,101,121],[114,101,102],[110,117,109],[112,105,99,107],[100,97,121],[115,116,101,112],[115,117,109],[115,104,97,114,101],[99,111,112,121]]
def QtC:List Ty:=QjZ.flatMap rS.cs
def QqB:List Int:=[1,10,100,1000,10000,100000,1000000,10000000,100000000,1000000000,10000000000,100000000000,1000000000000,10000000000000,100000000000000,1000000000000000,10000000000000000,100000000000000000,1000000000000000000,10000000000000000000]
def QtD:List Ty:=QqB.flatMap (rInt .u64).cs
def QtE:List Int:=[0,1,28,2,29,14,24,3,30,22,20,15,25,17,4,8,31,27,13,23,21,19,16,7,26,12,18,6,11,5,10,9]
def tglo3:List Ty:=QtE.flatMap (rInt .u8).cs
def QtF:List Int:=[0,1,56,2,57,49,28,3,61,58,42,50,38,29,17,4,62,47,59,36,45,43,51,22,53,39,33,30,24,18,12,5,63,55,48,27,60,41,37,16,46,35,44,21,52,32,23,11,54,26,40,15,34,20,31,10,25,14,19,9,13,8,7,6]
def tglo4:List Ty:=QtF.flatMap (rInt .u8).cs
abbrev bld:=bldE 242 5
def glo:Atom:=gloA [(0,QtB),(1,QtC),(2,QtD),(3,tglo3),(4,tglo4)]
def QqC:∀k,¬glo.fp k:=λ_ h=>h
def _root_.Go.Sim.OpJ.glo {P:Program} {o:Oper} {Γ:List (Nat×Ty)} {U E:List Atom} {N:Value->List Atom} {T:Value->Ty} (h:OpJ P o Γ U (glo::E) N T):OpJ P o Γ (glo::U) E N T:=OpJ.gloG QqC h
def Qzw:Qmb glo 0 QtB:=Qou (by simp)
def Qxp:Qlm glo 0 QtB:=Qzw.has
def Qzx:Qmb glo 1 QtC:=Qou (by simp)
def Qxq:Qlm glo 1 QtC:=Qzx.has
def Qzy:Qmb glo 2 QtD:=Qou (by simp)
def tok3:TOk prog 3 rI 8 (.int .i64 0):=⟨⟨_,underlying3,rfl⟩,by kernel_rfl,rfl⟩
def zok3:∀F w,(rI.ty (0:Int)).ok F w (.int .i64 0):=λ_ _=>rfl
def tok4:TOk prog 4 Qau 1 (.bool false):=⟨⟨_,underlying4,rfl⟩,by kernel_rfl,rfl⟩
def zok4:∀F w,(Qau.ty false).ok F w (.bool false):=λ_ _=>rfl
def tok5:TOk prog 5 (rInt .u8) 1 (.int .u8 0):=⟨⟨_,underlying5,rfl⟩,by kernel_rfl,rfl⟩
def tok9:TOk prog 9 rS 16 (.string .empty):=⟨⟨_,underlying9,rfl⟩,by kernel_rfl,rfl⟩
def QnG:TOk prog 20 (rAny 3 9) 16 .nilIface:=⟨⟨_,underlying20,rfl⟩,by kernel_rfl,rfl⟩
def QtG:TOk prog 22 (rSl rI) 24 (.slice none 0 0):=⟨⟨_,underlying22,rfl⟩,by kernel_rfl,rfl⟩
def Qjr:TOk prog 25 (rSl rS) 24 (.slice none 0 0):=⟨⟨_,underlying25,rfl⟩,by kernel_rfl,rfl⟩
def zok25:∀F w,((rSl rS).ty ([]:(List Str))).ok F w (.slice none 0 0):=λ_ _=>⟨none,0,rfl,Nat.le_refl _,λh=>(h rfl).elim⟩
def Qp8:TOk prog 26 rI 8 (.int .i64 0):=⟨⟨_,underlying26,rfl⟩,by kernel_rfl,rfl⟩
structure Qd where
  Xj:Str
  Of:Str
  Up:Str
  Xi:Int
  Lo:Int
  Hi:Int
  Words:(List Str)
  Xf:(List Int)
deriving Inhabited
@[reducible] def Qe : Rep Qd := ⟨λx => ([tv (.string (sB x.Xj)),tv (.string (sB x.Of)),tv (.string (sB x.Up)),ti x.Xi,ti x.Lo,ti x.Hi,tsl rS x.Words,tsl rI x.Xf]),8,true,λ_ => rfl,λ_ => (Qx (Q9 rfl) (Qx (Q9 rfl) (Qx (Q9 rfl) (Qx (Q9 rfl) (Qx (Q9 rfl) (Qx (Q9 rfl) (Qx Qb0 (Qx Qb0 Qak)))))))),λh => (by cases h)⟩
theorem QaW:TOk prog 49 Qe 120 (.agg #[(.string .empty),(.string .empty),(.string .empty),(.int .i64 0),(.int .i64 0),(.int .i64 0),(.slice none 0 0),(.slice none 0 0)]):=⟨⟨_,underlying49,rfl⟩,by kernel_rfl,rfl⟩
def zc49:∀F w,QS (Qe.cs (Qd.mk ([]:Str) ([]:Str) ([]:Str) (0:Int) (0:Int) (0:Int) ([]:(List Str)) ([]:(List Int)))) F w ((.agg #[(.string .empty),(.string .empty),(.string .empty),(.int .i64 0),(.int .i64 0),(.int .i64 0),(.slice none 0 0),(.slice none 0 0)]):Value).cells.toList:=λ_ _=>(.cons rfl (.cons rfl (.cons rfl (.cons rfl (.cons rfl (.cons rfl (.cons ⟨none,0,rfl,Nat.le_refl _,λh=>(h rfl).elim⟩ (.cons ⟨none,0,rfl,Nat.le_refl _,λh=>(h rfl).elim⟩ .nil))))))))
def Qme:∀F w,(Qe.ty (Qd.mk ([]:Str) ([]:Str) ([]:Str) (0:Int) (0:Int) (0:Int) ([]:(List Str)) ([]:(List Int)))).ok F w (.agg #[(.string .empty),(.string .empty),(.string .empty),(.int .i64 0),(.int .i64 0),(.int .i64 0),(.slice none 0 0),(.slice none 0 0)]):=λF w=>⟨_,rfl,zc49 F w⟩
def zv49:(prog.info? 49).bind (·.zero)=some (.agg #[(.string .empty),(.string .empty),(.string .empty),(.int .i64 0),(.int .i64 0),(.int .i64 0),(.slice none 0 0),(.slice none 0 0)]):=by kernel_rfl
def pl49 : ∀ w, ((#[⟨"Name", 9, 0, false, "", "", 0⟩, ⟨"Of", 9, 1, false, "", "", 16⟩, ⟨"Up", 9, 2, false, "", "", 32⟩, ⟨"Kind", 3, 3, false, "", "", 48⟩, ⟨"Lo", 3, 4, false, "", "", 56⟩, ⟨"Hi", 3, 5, false, "", "", 64⟩, ⟨"Words", 25, 6, false, "", "", 72⟩, ⟨"Weights", 22, 7, false, "", "", 96⟩] : Array Field).mapM (fun f => do pure (f.offset, ← sizeOf f.type) : Field → Sem (Nat × Nat))).run Tryz.prog w = .ok #[(0, 1), (1, 1), (2, 1), (3, 1), (4, 1), (5, 1), (6, 1), (7, 1)] w := fun _ => by kernel_rfl
def Qxr:(∀F w,QS ([tv (.string (sB ([]:Str))),tv (.string (sB ([]:Str))),tv (.string (sB ([]:Str))),ti (0:Int),ti (0:Int),ti (0:Int),tsl rS ([]:(List Str)),tvs nilV]) F w ((.agg #[(.string .empty),(.string .empty),(.string .empty),(.int .i64 0),(.int .i64 0),(.int .i64 0),(.slice none 0 0),(.slice none 0 0)]):Value).cells.toList)/\([tv (.string (sB ([]:Str))),tv (.string (sB ([]:Str))),tv (.string (sB ([]:Str))),ti (0:Int),ti (0:Int),ti (0:Int),tsl rS ([]:(List Str)),tvs nilV]).length=8/\Qe.agg=true/\∃cs,((.agg #[(.string .empty),(.string .empty),(.string .empty),(.int .i64 0),(.int .i64 0),(.int .i64 0),(.slice none 0 0),(.slice none 0 0)]):Value)=.agg cs:=⟨λ_ _=>(.cons rfl (.cons rfl (.cons rfl (.cons rfl (.cons rfl (.cons rfl (.cons ⟨none,0,rfl,Nat.le_refl _,λh=>(h rfl).elim⟩ (.cons ⟨rfl,rfl⟩ .nil)))))))),rfl,rfl,_,rfl⟩
def Qkt:TOk prog 45 (rSl Qe) 24 (.slice none 0 0):=⟨⟨_,underlying45,rfl⟩,by kernel_rfl,rfl⟩
structure Qi where
  Xj:Str
  Lo:Int
  Hi:Int
  Xb:(List Qd)
deriving Inhabited
@[reducible] def Qg : Rep Qi := ⟨λx => ([tv (.string (sB x.Xj)),ti x.Lo,ti x.Hi,tsl Qe x.Xb]),4,true,λ_ => rfl,λ_ => (Qx (Q9 rfl) (Qx (Q9 rfl) (Qx (Q9 rfl) (Qx Qb0 Qak)))),λh => (by cases h)⟩
theorem QcX:TOk prog 47 Qg 56 (.agg #[(.string .empty),(.int .i64 0),(.int .i64 0),(.slice none 0 0)]):=⟨⟨_,underlying47,rfl⟩,by kernel_rfl,rfl⟩
def zc47:∀F w,QS (Qg.cs (Qi.mk ([]:Str) (0:Int) (0:Int) ([]:(List Qd)))) F w ((.agg #[(.string .empty),(.int .i64 0),(.int .i64 0),(.slice none 0 0)]):Value).cells.toList:=λ_ _=>(.cons rfl (.cons rfl (.cons rfl (.cons ⟨none,0,rfl,Nat.le_refl _,λh=>(h rfl).elim⟩ .nil))))
def QCz:∀F w,(Qg.ty (Qi.mk ([]:Str) (0:Int) (0:Int) ([]:(List Qd)))).ok F w (.agg #[(.string .empty),(.int .i64 0),(.int .i64 0),(.slice none 0 0)]):=λF w=>⟨_,rfl,zc47 F w⟩
def zv47:(prog.info? 47).bind (·.zero)=some (.agg #[(.string .empty),(.int .i64 0),(.int .i64 0),(.slice none 0 0)]):=by kernel_rfl
def pl47 : ∀ w, ((#[⟨"Name", 9, 0, false, "", "", 0⟩, ⟨"Lo", 3, 1, false, "", "", 16⟩, ⟨"Hi", 3, 2, false, "", "", 24⟩, ⟨"Fields", 45, 3, false, "", "", 32⟩] : Array Field).mapM (fun f => do pure (f.offset, ← sizeOf f.type) : Field → Sem (Nat × Nat))).run Tryz.prog w = .ok #[(0, 1), (1, 1), (2, 1), (3, 1)] w := fun _ => by kernel_rfl
def Qxs:(∀F w,QS ([tv (.string (sB ([]:Str))),ti (0:Int),ti (0:Int),tvs nilV]) F w ((.agg #[(.string .empty),(.int .i64 0),(.int .i64 0),(.slice none 0 0)]):Value).cells.toList)/\([tv (.string (sB ([]:Str))),ti (0:Int),ti (0:Int),tvs nilV]).length=4/\Qg.agg=true/\∃cs,((.agg #[(.string .empty),(.int .i64 0),(.int .i64 0),(.slice none 0 0)]):Value)=.agg cs:=⟨λ_ _=>(.cons rfl (.cons rfl (.cons rfl (.cons ⟨rfl,rfl⟩ .nil)))),rfl,rfl,_,rfl⟩
def Qku:TOk prog 29 (rSl Qg) 24 (.slice none 0 0):=⟨⟨_,underlying29,rfl⟩,by kernel_rfl,rfl⟩
structure QR where
  a0:Int
  a1:Int
deriving Inhabited
@[reducible] def Qat : Rep QR := ⟨λx => ([ti x.a0,ti x.a1]),2,true,λ_ => rfl,λ_ => (Qx (Q9 rfl) (Qx (Q9 rfl) Qak)),λh => (by cases h)⟩
theorem QuX:TOk prog 112 Qat 16 (.agg #[(.int .i64 0),(.int .i64 0)]):=⟨⟨_,underlying112,rfl⟩,by kernel_rfl,rfl⟩
def zc112:∀F w,QS (Qat.cs (QR.mk (0:Int) (0:Int))) F w ((.agg #[(.int .i64 0),(.int .i64 0)]):Value).cells.toList:=λ_ _=>(.cons rfl (.cons rfl .nil))
def zok112:∀F w,(Qat.ty (QR.mk (0:Int) (0:Int))).ok F w (.agg #[(.int .i64 0),(.int .i64 0)]):=λF w=>⟨_,rfl,zc112 F w⟩
def QtH:TOk prog 77 (rSl Qat) 24 (.slice none 0 0):=⟨⟨_,underlying77,rfl⟩,by kernel_rfl,rfl⟩
structure QC where
  Xj:Str
  Xe:(List Str)
  Xg:(List QR)
deriving Inhabited
@[reducible] def QA : Rep QC := ⟨λx => ([tv (.string (sB x.Xj)),tsl rS x.Xe,tsl Qat x.Xg]),3,true,λ_ => rfl,λ_ => (Qx (Q9 rfl) (Qx Qb0 (Qx Qb0 Qak))),λh => (by cases h)⟩
theorem QnH:TOk prog 111 QA 64 (.agg #[(.string .empty),(.slice none 0 0),(.slice none 0 0)]):=⟨⟨_,underlying111,rfl⟩,by kernel_rfl,rfl⟩
def zc111:∀F w,QS (QA.cs (QC.mk ([]:Str) ([]:(List Str)) ([]:(List QR)))) F w ((.agg #[(.string .empty),(.slice none 0 0),(.slice none 0 0)]):Value).cells.toList:=λ_ _=>(.cons rfl (.cons ⟨none,0,rfl,Nat.le_refl _,λh=>(h rfl).elim⟩ (.cons ⟨none,0,rfl,Nat.le_refl _,λh=>(h rfl).elim⟩ .nil)))
def QuY:∀F w,(QA.ty (QC.mk ([]:Str) ([]:(List Str)) ([]:(List QR)))).ok F w (.agg #[(.string .empty),(.slice none 0 0),(.slice none 0 0)]):=λF w=>⟨_,rfl,zc111 F w⟩
def zv111:(prog.info? 111).bind (·.zero)=some (.agg #[(.string .empty),(.slice none 0 0),(.slice none 0 0)]):=by kernel_rfl
def pl111 : ∀ w, ((#[⟨"Name", 9, 0, false, "", "", 0⟩, ⟨"States", 25, 1, false, "", "", 16⟩, ⟨"Moves", 77, 2, false, "", "", 40⟩] : Array Field).mapM (fun f => do pure (f.offset, ← sizeOf f.type) : Field → Sem (Nat × Nat))).run Tryz.prog w = .ok #[(0, 1), (1, 1), (2, 1)] w := fun _ => by kernel_rfl
def QuZ:(∀F w,QS ([tv (.string (sB ([]:Str))),tsl rS ([]:(List Str)),tvs nilV]) F w ((.agg #[(.string .empty),(.slice none 0 0),(.slice none 0 0)]):Value).cells.toList)/\([tv (.string (sB ([]:Str))),tsl rS ([]:(List Str)),tvs nilV]).length=3/\QA.agg=true/\∃cs,((.agg #[(.string .empty),(.slice none 0 0),(.slice none 0 0)]):Value)=.agg cs:=⟨λ_ _=>(.cons rfl (.cons ⟨none,0,rfl,Nat.le_refl _,λh=>(h rfl).elim⟩ (.cons ⟨rfl,rfl⟩ .nil))),rfl,rfl,_,rfl⟩
def tok30:TOk prog 30 (rSl QA) 24 (.slice none 0 0):=⟨⟨_,underlying30,rfl⟩,by kernel_rfl,rfl⟩
structure Qp where
  Xj:Str
  Xi:Str
  A:Str
  B:Str
  N:Int
deriving Inhabited
@[reducible] def Qt : Rep Qp := ⟨λx => ([tv (.string (sB x.Xj)),tv (.string (sB x.Xi)),tv (.string (sB x.A)),tv (.string (sB x.B)),ti x.N]),5,true,λ_ => rfl,λ_ => (Qx (Q9 rfl) (Qx (Q9 rfl) (Qx (Q9 rfl) (Qx (Q9 rfl) (Qx (Q9 rfl) Qak))))),λh => (by cases h)⟩
theorem QnI:TOk prog 104 Qt 72 (.agg #[(.string .empty),(.string .empty),(.string .empty),(.string .empty),(.int .i64 0)]):=⟨⟨_,underlying104,rfl⟩,by kernel_rfl,rfl⟩
def QtI:∀F w,QS (Qt.cs (Qp.mk ([]:Str) ([]:Str) ([]:Str) ([]:Str) (0:Int))) F w ((.agg #[(.string .empty),(.string .empty),(.string .empty),(.string .empty),(.int .i64 0)]):Value).cells.toList:=λ_ _=>(.cons rfl (.cons rfl (.cons rfl (.cons rfl (.cons rfl .nil)))))
def zok104:∀F w,(Qt.ty (Qp.mk ([]:Str) ([]:Str) ([]:Str) ([]:Str) (0:Int))).ok F w (.agg #[(.string .empty),(.string .empty),(.string .empty),(.string .empty),(.int .i64 0)]):=λF w=>⟨_,rfl,QtI F w⟩
def zv104:(prog.info? 104).bind (·.zero)=some (.agg #[(.string .empty),(.string .empty),(.string .empty),(.string .empty),(.int .i64 0)]):=by kernel_rfl
def pl104 : ∀ w, ((#[⟨"Name", 9, 0, false, "", "", 0⟩, ⟨"Kind", 9, 1, false, "", "", 16⟩, ⟨"A", 9, 2, false, "", "", 32⟩, ⟨"B", 9, 3, false, "", "", 48⟩, ⟨"N", 3, 4, false, "", "", 64⟩] : Array Field).mapM (fun f => do pure (f.offset, ← sizeOf f.type) : Field → Sem (Nat × Nat))).run Tryz.prog w = .ok #[(0, 1), (1, 1), (2, 1), (3, 1), (4, 1)] w := fun _ => by kernel_rfl
def QCA:TOk prog 31 (rSl Qt) 24 (.slice none 0 0):=⟨⟨_,underlying31,rfl⟩,by kernel_rfl,rfl⟩
structure Qb where
  Version:Int
  Xa:(List Qi)
  Xd:(List QC)
  Xc:(List Qp)
deriving Inhabited
@[reducible] def Qc : Rep Qb := ⟨λx => ([ti x.Version,tsl Qg x.Xa,tsl QA x.Xd,tsl Qt x.Xc]),4,true,λ_ => rfl,λ_ => (Qx (Q9 rfl) (Qx Qb0 (Qx Qb0 (Qx Qb0 Qak)))),λh => (by cases h)⟩
theorem Qbk:TOk prog 33 Qc 80 (.agg #[(.int .i64 0),(.slice none 0 0),(.slice none 0 0),(.slice none 0 0)]):=⟨⟨_,underlying33,rfl⟩,by kernel_rfl,rfl⟩
def zc33:∀F w,QS (Qc.cs (Qb.mk (0:Int) ([]:(List Qi)) ([]:(List QC)) ([]:(List Qp)))) F w ((.agg #[(.int .i64 0),(.slice none 0 0),(.slice none 0 0),(.slice none 0 0)]):Value).cells.toList:=λ_ _=>(.cons rfl (.cons ⟨none,0,rfl,Nat.le_refl _,λh=>(h rfl).elim⟩ (.cons ⟨none,0,rfl,Nat.le_refl _,λh=>(h rfl).elim⟩ (.cons ⟨none,0,rfl,Nat.le_refl _,λh=>(h rfl).elim⟩ .nil))))
def QCB:∀F w,(Qc.ty (Qb.mk (0:Int) ([]:(List Qi)) ([]:(List QC)) ([]:(List Qp)))).ok F w (.agg #[(.int .i64 0),(.slice none 0 0),(.slice none 0 0),(.slice none 0 0)]):=λF w=>⟨_,rfl,zc33 F w⟩
def zv33:(prog.info? 33).bind (·.zero)=some (.agg #[(.int .i64 0),(.slice none 0 0),(.slice none 0 0),(.slice none 0 0)]):=by kernel_rfl
def pl33 : ∀ w, ((#[⟨"Version", 3, 0, false, "", "", 0⟩, ⟨"Kinds", 29, 1, false, "", "", 8⟩, ⟨"Lives", 30, 2, false, "", "", 32⟩, ⟨"Rules", 31, 3, false, "", "", 56⟩] : Array Field).mapM (fun f => do pure (f.offset, ← sizeOf f.type) : Field → Sem (Nat × Nat))).run Tryz.prog w = .ok #[(0, 1), (1, 1), (2, 1), (3, 1)] w := fun _ => by kernel_rfl
def QqD:(∀F w,QS ([ti (0:Int),tvs nilV,tvs nilV,tvs nilV]) F w ((.agg #[(.int .i64 0),(.slice none 0 0),(.slice none 0 0),(.slice none 0 0)]):Value).cells.toList)/\([ti (0:Int),tvs nilV,tvs nilV,tvs nilV]).length=4/\Qc.agg=true/\∃cs,((.agg #[(.int .i64 0),(.slice none 0 0),(.slice none 0 0),(.slice none 0 0)]):Value)=.agg cs:=⟨λ_ _=>(.cons rfl (.cons ⟨rfl,rfl⟩ (.cons ⟨rfl,rfl⟩ (.cons ⟨rfl,rfl⟩ .nil)))),rfl,rfl,_,rfl⟩
structure QG where
  A:Int
  B:Int
  N:Int
deriving Inhabited
@[reducible] def Qae : Rep QG := ⟨λx => ([ti x.A,ti x.B,ti x.N]),3,true,λ_ => rfl,λ_ => (Qx (Q9 rfl) (Qx (Q9 rfl) (Qx (Q9 rfl) Qak))),λh => (by cases h)⟩
theorem QnJ:TOk prog 64 Qae 24 (.agg #[(.int .i64 0),(.int .i64 0),(.int .i64 0)]):=⟨⟨_,underlying64,rfl⟩,by kernel_rfl,rfl⟩
def zc64:∀F w,QS (Qae.cs (QG.mk (0:Int) (0:Int) (0:Int))) F w ((.agg #[(.int .i64 0),(.int .i64 0),(.int .i64 0)]):Value).cells.toList:=λ_ _=>(.cons rfl (.cons rfl (.cons rfl .nil)))
def zok64:∀F w,(Qae.ty (QG.mk (0:Int) (0:Int) (0:Int))).ok F w (.agg #[(.int .i64 0),(.int .i64 0),(.int .i64 0)]):=λF w=>⟨_,rfl,zc64 F w⟩
def zv64:(prog.info? 64).bind (·.zero)=some (.agg #[(.int .i64 0),(.int .i64 0),(.int .i64 0)]):=by kernel_rfl
def pl64 : ∀ w, ((#[⟨"A", 3, 0, false, "", "", 0⟩, ⟨"B", 3, 1, false, "", "", 8⟩, ⟨"N", 3, 2, false, "", "", 16⟩] : Array Field).mapM (fun f => do pure (f.offset, ← sizeOf f.type) : Field → Sem (Nat × Nat))).run Tryz.prog w = .ok #[(0, 1), (1, 1), (2, 1)] w := fun _ => by kernel_rfl
structure QM where
  Xi:Int
  Xj:Str
  Xu:QG
deriving Inhabited
@[reducible] def QT : Rep QM := ⟨λx => ([ti x.Xi,tv (.string (sB x.Xj))] ++ Qae.cs x.Xu),5,true,λ_ => rfl,λ_ => (QiR (Qx (Q9 rfl) (Qx (Q9 rfl) Qak)) (QiQ Qae)),λh => (by cases h)⟩
theorem Qjs:TOk prog 66 QT 48 (.agg #[(.int .i64 0),(.string .empty),(.int .i64 0),(.int .i64 0),(.int .i64 0)]):=⟨⟨_,underlying66,rfl⟩,by kernel_rfl,rfl⟩
def zc66:∀F w,QS (QT.cs (QM.mk (0:Int) ([]:Str) (QG.mk (0:Int) (0:Int) (0:Int)))) F w ((.agg #[(.int .i64 0),(.string .empty),(.int .i64 0),(.int .i64 0),(.int .i64 0)]):Value).cells.toList:=λ_ _=>(.cons rfl (.cons rfl (.cons rfl (.cons rfl (.cons rfl .nil)))))
def zv66:(prog.info? 66).bind (·.zero)=some (.agg #[(.int .i64 0),(.string .empty),(.int .i64 0),(.int .i64 0),(.int .i64 0)]):=by kernel_rfl
def pl66 : ∀ w, ((#[⟨"Kind", 3, 0, false, "", "", 0⟩, ⟨"Name", 9, 1, false, "", "", 8⟩, ⟨"Diff", 64, 2, false, "", "", 24⟩] : Array Field).mapM (fun f => do pure (f.offset, ← sizeOf f.type) : Field → Sem (Nat × Nat))).run Tryz.prog w = .ok #[(0, 1), (1, 1), (2, 3)] w := fun _ => by kernel_rfl
def QtJ:TOk prog 67 Qae 24 (.agg #[(.int .i64 0),(.int .i64 0),(.int .i64 0)]):=⟨⟨_,underlying67,rfl⟩,by kernel_rfl,rfl⟩
def zc67:∀F w,QS (Qae.cs (QG.mk (0:Int) (0:Int) (0:Int))) F w ((.agg #[(.int .i64 0),(.int .i64 0),(.int .i64 0)]):Value).cells.toList:=λ_ _=>(.cons rfl (.cons rfl (.cons rfl .nil)))
def zok67:∀F w,(Qae.ty (QG.mk (0:Int) (0:Int) (0:Int))).ok F w (.agg #[(.int .i64 0),(.int .i64 0),(.int .i64 0)]):=λF w=>⟨_,rfl,zc67 F w⟩
def zv67:(prog.info? 67).bind (·.zero)=some (.agg #[(.int .i64 0),(.int .i64 0),(.int .i64 0)]):=by kernel_rfl
def pl67 : ∀ w, ((#[⟨"A", 3, 0, false, "", "", 0⟩, ⟨"B", 3, 1, false, "", "", 8⟩, ⟨"N", 3, 2, false, "", "", 16⟩] : Array Field).mapM (fun f => do pure (f.offset, ← sizeOf f.type) : Field → Sem (Nat × Nat))).run Tryz.prog w = .ok #[(0, 1), (1, 1), (2, 1)] w := fun _ => by kernel_rfl
def tok68:TOk prog 68 (rSl (rSl rI)) 24 (.slice none 0 0):=⟨⟨_,underlying68,rfl⟩,by kernel_rfl,rfl⟩
structure Qk where
  A:Int
  B:Int
  Mul:Int
  Xh:Bool
deriving Inhabited
@[reducible] def QP : Rep Qk := ⟨λx => ([ti x.A,ti x.B,ti x.Mul,tb x.Xh]),4,true,λ_ => rfl,λ_ => (Qx (Q9 rfl) (Qx (Q9 rfl) (Qx (Q9 rfl) (Qx (Q9 rfl) Qak)))),λh => (by cases h)⟩
theorem QqE:TOk prog 146 QP 32 (.agg #[(.int .i64 0),(.int .i64 0),(.int .i64 0),(.bool false)]):=⟨⟨_,underlying146,rfl⟩,by kernel_rfl,rfl⟩
def zc146:∀F w,QS (QP.cs (Qk.mk (0:Int) (0:Int) (0:Int) false)) F w ((.agg #[(.int .i64 0),(.int .i64 0),(.int .i64 0),(.bool false)]):Value).cells.toList:=λ_ _=>(.cons rfl (.cons rfl (.cons rfl (.cons rfl .nil))))
def zok146:∀F w,(QP.ty (Qk.mk (0:Int) (0:Int) (0:Int) false)).ok F w (.agg #[(.int .i64 0),(.int .i64 0),(.int .i64 0),(.bool false)]):=λF w=>⟨_,rfl,zc146 F w⟩
def zv146:(prog.info? 146).bind (·.zero)=some (.agg #[(.int .i64 0),(.int .i64 0),(.int .i64 0),(.bool false)]):=by kernel_rfl
def pl146 : ∀ w, ((#[⟨"A", 3, 0, false, "", "", 0⟩, ⟨"B", 3, 1, false, "", "", 8⟩, ⟨"Mul", 3, 2, false, "", "", 16⟩, ⟨"Least", 4, 3, false, "", "", 24⟩] : Array Field).mapM (fun f => do pure (f.offset, ← sizeOf f.type) : Field → Sem (Nat × Nat))).run Tryz.prog w = .ok #[(0, 1), (1, 1), (2, 1), (3, 1)] w := fun _ => by kernel_rfl
def Qmf:TOk prog 75 (rSl QP) 24 (.slice none 0 0):=⟨⟨_,underlying75,rfl⟩,by kernel_rfl,rfl⟩
structure QW where
  kind:Int
  name:Str
  Xu:QG
deriving Inhabited
@[reducible] def QX : Rep QW := ⟨λx => ([ti x.kind,tv (.string (sB x.name))] ++ Qae.cs x.Xu),5,true,λ_ => rfl,λ_ => (QiR (Qx (Q9 rfl) (Qx (Q9 rfl) Qak)) (QiQ Qae)),λh => (by cases h)⟩
theorem Qj0:TOk prog 119 QX 48 (.agg #[(.int .i64 0),(.string .empty),(.int .i64 0),(.int .i64 0),(.int .i64 0)]):=⟨⟨_,underlying119,rfl⟩,by kernel_rfl,rfl⟩
def QnK:∀F w,QS (QX.cs (QW.mk (0:Int) ([]:Str) (QG.mk (0:Int) (0:Int) (0:Int)))) F w ((.agg #[(.int .i64 0),(.string .empty),(.int .i64 0),(.int .i64 0),(.int .i64 0)]):Value).cells.toList:=λ_ _=>(.cons rfl (.cons rfl (.cons rfl (.cons rfl (.cons rfl .nil)))))
def zok119:∀F w,(QX.ty (QW.mk (0:Int) ([]:Str) (QG.mk (0:Int) (0:Int) (0:Int)))).ok F w (.agg #[(.int .i64 0),(.string .empty),(.int .i64 0),(.int .i64 0),(.int .i64 0)]):=λF w=>⟨_,rfl,QnK F w⟩
def Qp9:(prog.info? 119).bind (·.zero)=some (.agg #[(.int .i64 0),(.string .empty),(.int .i64 0),(.int .i64 0),(.int .i64 0)]):=by kernel_rfl
def Qqa : ∀ w, ((#[⟨"kind", 3, 0, false, "", "diorama/core", 0⟩, ⟨"name", 9, 1, false, "", "diorama/core", 8⟩, ⟨"Diff", 67, 2, true, "", "", 24⟩] : Array Field).mapM (fun f => do pure (f.offset, ← sizeOf f.type) : Field → Sem (Nat × Nat))).run Tryz.prog w = .ok #[(0, 1), (1, 1), (2, 3)] w := fun _ => by kernel_rfl
def tok76:TOk prog 76 (rSl QX) 24 (.slice none 0 0):=⟨⟨_,underlying76,rfl⟩,by kernel_rfl,rfl⟩
structure Qa8 where
  x:Qb
  Xo:(List Qk)
  Xt:(List QW)
  refs:(List QR)
deriving Inhabited
@[reducible] def QU : Rep Qa8 := ⟨λx => (Qc.cs x.x ++ [tsl QP x.Xo,tsl QX x.Xt,tsl Qat x.refs]),7,true,λ_ => rfl,λ_ => (QiR (QiQ Qc) (Qx Qb0 (Qx Qb0 (Qx Qb0 Qak)))),λh => (by cases h)⟩
theorem zv79:(prog.info? 79).bind (·.zero)=some (.agg #[(.int .i64 0),(.slice none 0 0),(.slice none 0 0),(.slice none 0 0),(.slice none 0 0),(.slice none 0 0),(.slice none 0 0)]):=by kernel_rfl
def pl79 : ∀ w, ((#[⟨"x", 33, 0, false, "", "diorama/core", 0⟩, ⟨"limits", 75, 4, false, "", "diorama/core", 80⟩, ⟨"diffs", 76, 5, false, "", "diorama/core", 104⟩, ⟨"refs", 77, 6, false, "", "diorama/core", 128⟩] : Array Field).mapM (fun f => do pure (f.offset, ← sizeOf f.type) : Field → Sem (Nat × Nat))).run Tryz.prog w = .ok #[(0, 4), (4, 1), (5, 1), (6, 1)] w := fun _ => by kernel_rfl
def Qxt:(∀F w,QS (Qc.cs (Qb.mk (0:Int) ([]:(List Qi)) ([]:(List QC)) ([]:(List Qp)))++[tsl QP ([]:(List Qk)),tsl QX ([]:(List QW)),tvs nilV]) F w ((.agg #[(.int .i64 0),(.slice none 0 0),(.slice none 0 0),(.slice none 0 0),(.slice none 0 0),(.slice none 0 0),(.slice none 0 0)]):Value).cells.toList)/\(Qc.cs (Qb.mk (0:Int) ([]:(List Qi)) ([]:(List QC)) ([]:(List Qp)))++[tsl QP ([]:(List Qk)),tsl QX ([]:(List QW)),tvs nilV]).length=7/\QU.agg=true/\∃cs,((.agg #[(.int .i64 0),(.slice none 0 0),(.slice none 0 0),(.slice none 0 0),(.slice none 0 0),(.slice none 0 0),(.slice none 0 0)]):Value)=.agg cs:=⟨λ_ _=>(.cons rfl (.cons ⟨none,0,rfl,Nat.le_refl _,λh=>(h rfl).elim⟩ (.cons ⟨none,0,rfl,Nat.le_refl _,λh=>(h rfl).elim⟩ (.cons ⟨none,0,rfl,Nat.le_refl _,λh=>(h rfl).elim⟩ (.cons ⟨none,0,rfl,Nat.le_refl _,λh=>(h rfl).elim⟩ (.cons ⟨none,0,rfl,Nat.le_refl _,λh=>(h rfl).elim⟩ (.cons ⟨rfl,rfl⟩ .nil))))))),rfl,rfl,_,rfl⟩
def Qiz:TOk prog 73 (rPtr QU) 8 (.pointer none):=⟨⟨_,underlying73,rfl⟩,by kernel_rfl,rfl⟩
@[reducible] def tF81 (p : (Int -> Option Bool)) : Ty := tfn prog [] (A := Int) (B := Bool) (λx => [ti x]) (λy => tb y) (p)
@[reducible] def rF81 : Rep (Int -> Option Bool) := ⟨λp => [tF81 p],1,false,λ_ => rfl,λ_ => Qx Qb1 Qak,λ_ => rfl⟩
theorem QtK:TOk prog 81 rF81 8 .nilFunc:=⟨⟨_,underlying81,rfl⟩,by kernel_rfl,rfl⟩
def QhU:TOk prog 86 (rInt .u64) 8 (.int .u64 0):=⟨⟨_,underlying86,rfl⟩,by kernel_rfl,rfl⟩
def zok86:∀F w,((rInt .u64).ty (0:Int)).ok F w (.int .u64 0):=λ_ _=>rfl
structure QE where
  L:(List Int)
  I:Int
deriving Inhabited
@[reducible] def Qs : Rep QE := ⟨λx => ([tsl rI x.L,ti x.I]),2,true,λ_ => rfl,λ_ => (Qx Qb0 (Qx (Q9 rfl) Qak)),λh => (by cases h)⟩
theorem Qu0:TOk prog 107 Qs 32 (.agg #[(.slice none 0 0),(.int .i64 0)]):=⟨⟨_,underlying107,rfl⟩,by kernel_rfl,rfl⟩
def zc107:∀F w,QS (Qs.cs (QE.mk ([]:(List Int)) (0:Int))) F w ((.agg #[(.slice none 0 0),(.int .i64 0)]):Value).cells.toList:=λ_ _=>(.cons ⟨none,0,rfl,Nat.le_refl _,λh=>(h rfl).elim⟩ (.cons rfl .nil))
def zv107:(prog.info? 107).bind (·.zero)=some (.agg #[(.slice none 0 0),(.int .i64 0)]):=by kernel_rfl
def pl107 : ∀ w, ((#[⟨"L", 22, 0, false, "", "", 0⟩, ⟨"I", 3, 1, false, "", "", 24⟩] : Array Field).mapM (fun f => do pure (f.offset, ← sizeOf f.type) : Field → Sem (Nat × Nat))).run Tryz.prog w = .ok #[(0, 1), (1, 1)] w := fun _ => by kernel_rfl
@[reducible] def tF130 (p : (Qp -> Option Bool)) : Ty := tfn prog [] (A := Qp) (B := Bool) (λx => [Qt.ty x]) (λy => tb y) (p)
@[reducible] def Qkv : Rep (Qp -> Option Bool) := ⟨λp => [tF130 p],1,false,λ_ => rfl,λ_ => Qx Qb1 Qak,λ_ => rfl⟩
theorem tok130:TOk prog 130 Qkv 8 .nilFunc:=⟨⟨_,underlying130,rfl⟩,by kernel_rfl,rfl⟩
structure QB where
  Xi:Int
  Field:Int
  Rule:Int
  Code:Int
deriving Inhabited
@[reducible] def Q7 : Rep QB := ⟨λx => ([ti x.Xi,ti x.Field,ti x.Rule,ti x.Code]),4,true,λ_ => rfl,λ_ => (Qx (Q9 rfl) (Qx (Q9 rfl) (Qx (Q9 rfl) (Qx (Q9 rfl) Qak)))),λh => (by cases h)⟩
theorem Qu2:TOk prog 149 Q7 32 (.agg #[(.int .i64 0),(.int .i64 0),(.int .i64 0),(.int .i64 0)]):=⟨⟨_,underlying149,rfl⟩,by kernel_rfl,rfl⟩
def zc149:∀F w,QS (Q7.cs (QB.mk (0:Int) (0:Int) (0:Int) (0:Int))) F w ((.agg #[(.int .i64 0),(.int .i64 0),(.int .i64 0),(.int .i64 0)]):Value).cells.toList:=λ_ _=>(.cons rfl (.cons rfl (.cons rfl (.cons rfl .nil))))
def zv149:(prog.info? 149).bind (·.zero)=some (.agg #[(.int .i64 0),(.int .i64 0),(.int .i64 0),(.int .i64 0)]):=by kernel_rfl
def pl149 : ∀ w, ((#[⟨"Kind", 3, 0, false, "", "", 0⟩, ⟨"Field", 3, 1, false, "", "", 8⟩, ⟨"Rule", 3, 2, false, "", "", 16⟩, ⟨"Code", 26, 3, false, "", "", 24⟩] : Array Field).mapM (fun f => do pure (f.offset, ← sizeOf f.type) : Field → Sem (Nat × Nat))).run Tryz.prog w = .ok #[(0, 1), (1, 1), (2, 1), (3, 1)] w := fun _ => by kernel_rfl
@[reducible] def tF152 (p : (QC -> Option Bool)) : Ty := tfn prog [] (A := QC) (B := Bool) (λx => [QA.ty x]) (λy => tb y) (p)
@[reducible] def Qkw : Rep (QC -> Option Bool) := ⟨λp => [tF152 p],1,false,λ_ => rfl,λ_ => Qx Qb1 Qak,λ_ => rfl⟩
theorem tok152:TOk prog 152 Qkw 8 .nilFunc:=⟨⟨_,underlying152,rfl⟩,by kernel_rfl,rfl⟩
structure Qaf where
  is:Bool
  code:Int
deriving Inhabited
@[reducible] def Qa9 : Rep Qaf := ⟨λx => ([tb x.is,ti x.code]),2,true,λ_ => rfl,λ_ => (Qx (Q9 rfl) (Qx (Q9 rfl) Qak)),λh => (by cases h)⟩
theorem QqF:TOk prog 155 Qa9 16 (.agg #[(.bool false),(.int .i64 0)]):=⟨⟨_,underlying155,rfl⟩,by kernel_rfl,rfl⟩
def QtL:∀F w,QS (Qa9.cs (Qaf.mk false (0:Int))) F w ((.agg #[(.bool false),(.int .i64 0)]):Value).cells.toList:=λ_ _=>(.cons rfl (.cons rfl .nil))
def zok155:∀F w,(Qa9.ty (Qaf.mk false (0:Int))).ok F w (.agg #[(.bool false),(.int .i64 0)]):=λF w=>⟨_,rfl,QtL F w⟩
def zv155:(prog.info? 155).bind (·.zero)=some (.agg #[(.bool false),(.int .i64 0)]):=by kernel_rfl
def pl155 : ∀ w, ((#[⟨"is", 4, 0, false, "", "diorama/typing", 0⟩, ⟨"code", 26, 1, false, "", "diorama/typing", 8⟩] : Array Field).mapM (fun f => do pure (f.offset, ← sizeOf f.type) : Field → Sem (Nat × Nat))).run Tryz.prog w = .ok #[(0, 1), (1, 1)] w := fun _ => by kernel_rfl
structure Qav where
  x:Qb
  kind:Int
  field:Int
  f:Qd
deriving Inhabited
@[reducible] def QaE : Rep Qav := ⟨λx => (Qc.cs x.x ++ [ti x.kind,ti x.field] ++ Qe.cs x.f),14,true,λ_ => rfl,λ_ => (QiR (QiR (QiQ Qc) (Qx (Q9 rfl) (Qx (Q9 rfl) Qak))) (QiQ Qe)),λh => (by cases h)⟩
theorem Qu4:TOk prog 163 QaE 216 (.agg #[(.int .i64 0),(.slice none 0 0),(.slice none 0 0),(.slice none 0 0),(.int .i64 0),(.int .i64 0),(.string .empty),(.string .empty),(.string .empty),(.int .i64 0),(.int .i64 0),(.int .i64 0),(.slice none 0 0),(.slice none 0 0)]):=⟨⟨_,underlying163,rfl⟩,by kernel_rfl,rfl⟩
def zc163:∀F w,QS (QaE.cs (Qav.mk (Qb.mk (0:Int) ([]:(List Qi)) ([]:(List QC)) ([]:(List Qp))) (0:Int) (0:Int) (Qd.mk ([]:Str) ([]:Str) ([]:Str) (0:Int) (0:Int) (0:Int) ([]:(List Str)) ([]:(List Int))))) F w ((.agg #[(.int .i64 0),(.slice none 0 0),(.slice none 0 0),(.slice none 0 0),(.int .i64 0),(.int .i64 0),(.string .empty),(.string .empty),(.string .empty),(.int .i64 0),(.int .i64 0),(.int .i64 0),(.slice none 0 0),(.slice none 0 0)]):Value).cells.toList:=λ_ _=>(.cons rfl (.cons ⟨none,0,rfl,Nat.le_refl _,λh=>(h rfl).elim⟩ (.cons ⟨none,0,rfl,Nat.le_refl _,λh=>(h rfl).elim⟩ (.cons ⟨none,0,rfl,Nat.le_refl _,λh=>(h rfl).elim⟩ (.cons rfl (.cons rfl (.cons rfl (.cons rfl (.cons rfl (.cons rfl (.cons rfl (.cons rfl (.cons ⟨none,0,rfl,Nat.le_refl _,λh=>(h rfl).elim⟩ (.cons ⟨none,0,rfl,Nat.le_refl _,λh=>(h rfl).elim⟩ .nil))))))))))))))
def zv163:(prog.info? 163).bind (·.zero)=some (.agg #[(.int .i64 0),(.slice none 0 0),(.slice none 0 0),(.slice none 0 0),(.int .i64 0),(.int .i64 0),(.string .empty),(.string .empty),(.string .empty),(.int .i64 0),(.int .i64 0),(.int .i64 0),(.slice none 0 0),(.slice none 0 0)]):=by kernel_rfl
def pl163 : ∀ w, ((#[⟨"x", 33, 0, false, "", "diorama/typing", 0⟩, ⟨"kind", 3, 4, false, "", "diorama/typing", 80⟩, ⟨"field", 3, 5, false, "", "diorama/typing", 88⟩, ⟨"f", 49, 6, false, "", "diorama/typing", 96⟩] : Array Field).mapM (fun f => do pure (f.offset, ← sizeOf f.type) : Field → Sem (Nat × Nat))).run Tryz.prog w = .ok #[(0, 4), (4, 1), (5, 1), (6, 8)] w := fun _ => by kernel_rfl
@[reducible] def tF158 (p : (Qav -> Option Int)) : Ty := tfn prog [] (A := Qav) (B := Int) (λx => [QaE.ty x]) (λy => ti y) (p)
@[reducible] def rF158 : Rep (Qav -> Option Int) := ⟨λp => [tF158 p],1,false,λ_ => rfl,λ_ => Qx Qb1 Qak,λ_ => rfl⟩
@[reducible] def Qj1 : Rep (Option (Qav -> Option Int)) := ⟨λp => [tfo (tF158) p],1,false,λ_ => rfl,λ_ => Qx (QfL (λ_ => Qb1)) Qak,λ_ => rfl⟩
theorem Qu5:TOk prog 158 rF158 8 .nilFunc:=⟨⟨_,underlying158,rfl⟩,by kernel_rfl,rfl⟩
def Qxu:TOk prog 158 Qj1 8 .nilFunc:=⟨⟨_,underlying158,rfl⟩,by kernel_rfl,rfl⟩
structure QbR where
  check:(Option (Qav->Option Int))
instance :Inhabited QbR:=⟨⟨none⟩⟩
@[reducible] def Qcv : Rep QbR := ⟨λx => ([Qj1.ty x.check]),1,true,λ_ => rfl,λ_ => (Qx (QfL (λ_ => Qb1)) Qak),λh => (by cases h)⟩
theorem QnL:TOk prog 159 Qcv 8 (.agg #[.nilFunc]):=⟨⟨_,underlying159,rfl⟩,by kernel_rfl,rfl⟩
def zc159:∀F w,QS (Qcv.cs (QbR.mk none)) F w ((.agg #[.nilFunc]):Value).cells.toList:=λ_ _=>(.cons rfl .nil)
def Qu6:∀F w,(Qcv.ty (QbR.mk none)).ok F w (.agg #[.nilFunc]):=λF w=>⟨_,rfl,zc159 F w⟩
def zv159:(prog.info? 159).bind (·.zero)=some (.agg #[.nilFunc]):=by kernel_rfl
structure QH where
  Xi:Int
  Field:Int
  Rule:Int
  Code:Int
deriving Inhabited
@[reducible] def Q1 : Rep QH := ⟨λx => ([ti x.Xi,ti x.Field,ti x.Rule,ti x.Code]),4,true,λ_ => rfl,λ_ => (Qx (Q9 rfl) (Qx (Q9 rfl) (Qx (Q9 rfl) (Qx (Q9 rfl) Qak)))),λh => (by cases h)⟩
theorem Qu7:TOk prog 182 Q1 32 (.agg #[(.int .i64 0),(.int .i64 0),(.int .i64 0),(.int .i64 0)]):=⟨⟨_,underlying182,rfl⟩,by kernel_rfl,rfl⟩
def zc182:∀F w,QS (Q1.cs (QH.mk (0:Int) (0:Int) (0:Int) (0:Int))) F w ((.agg #[(.int .i64 0),(.int .i64 0),(.int .i64 0),(.int .i64 0)]):Value).cells.toList:=λ_ _=>(.cons rfl (.cons rfl (.cons rfl (.cons rfl .nil))))
def zv182:(prog.info? 182).bind (·.zero)=some (.agg #[(.int .i64 0),(.int .i64 0),(.int .i64 0),(.int .i64 0)]):=by kernel_rfl
def pl182 : ∀ w, ((#[⟨"Kind", 3, 0, false, "", "", 0⟩, ⟨"Field", 3, 1, false, "", "", 8⟩, ⟨"Rule", 3, 2, false, "", "", 16⟩, ⟨"Code", 26, 3, false, "", "", 24⟩] : Array Field).mapM (fun f => do pure (f.offset, ← sizeOf f.type) : Field → Sem (Nat × Nat))).run Tryz.prog w = .ok #[(0, 1), (1, 1), (2, 1), (3, 1)] w := fun _ => by kernel_rfl
structure Qv where
  A:Int
  B:Int
  Mul:Int
  Xh:Bool
deriving Inhabited
@[reducible] def QD : Rep Qv := ⟨λx => ([ti x.A,ti x.B,ti x.Mul,tb x.Xh]),4,true,λ_ => rfl,λ_ => (Qx (Q9 rfl) (Qx (Q9 rfl) (Qx (Q9 rfl) (Qx (Q9 rfl) Qak)))),λh => (by cases h)⟩
theorem Qu8:TOk prog 183 QD 32 (.agg #[(.int .i64 0),(.int .i64 0),(.int .i64 0),(.bool false)]):=⟨⟨_,underlying183,rfl⟩,by kernel_rfl,rfl⟩
def zc183:∀F w,QS (QD.cs (Qv.mk (0:Int) (0:Int) (0:Int) false)) F w ((.agg #[(.int .i64 0),(.int .i64 0),(.int .i64 0),(.bool false)]):Value).cells.toList:=λ_ _=>(.cons rfl (.cons rfl (.cons rfl (.cons rfl .nil))))
def zv183:(prog.info? 183).bind (·.zero)=some (.agg #[(.int .i64 0),(.int .i64 0),(.int .i64 0),(.bool false)]):=by kernel_rfl
def pl183 : ∀ w, ((#[⟨"A", 3, 0, false, "", "", 0⟩, ⟨"B", 3, 1, false, "", "", 8⟩, ⟨"Mul", 3, 2, false, "", "", 16⟩, ⟨"Least", 4, 3, false, "", "", 24⟩] : Array Field).mapM (fun f => do pure (f.offset, ← sizeOf f.type) : Field → Sem (Nat × Nat))).run Tryz.prog w = .ok #[(0, 1), (1, 1), (2, 1), (3, 1)] w := fun _ => by kernel_rfl
@[reducible] def tF202 (p : (Qi -> Option Bool)) : Ty := tfn prog [] (A := Qi) (B := Bool) (λx => [Qg.ty x]) (λy => tb y) (p)
@[reducible] def Qkx : Rep (Qi -> Option Bool) := ⟨λp => [tF202 p],1,false,λ_ => rfl,λ_ => Qx Qb1 Qak,λ_ => rfl⟩
theorem tok202:TOk prog 202 Qkx 8 .nilFunc:=⟨⟨_,underlying202,rfl⟩,by kernel_rfl,rfl⟩
@[reducible] def tF208 (p : (Qd -> Option Bool)) : Ty := tfn prog [] (A := Qd) (B := Bool) (λx => [Qe.ty x]) (λy => tb y) (p)
@[reducible] def Qky : Rep (Qd -> Option Bool) := ⟨λp => [tF208 p],1,false,λ_ => rfl,λ_ => Qx Qb1 Qak,λ_ => rfl⟩
theorem tok208:TOk prog 208 Qky 8 .nilFunc:=⟨⟨_,underlying208,rfl⟩,by kernel_rfl,rfl⟩
structure Qab where
  a:Int
  b:Int
  n:Int
deriving Inhabited
@[reducible] def Q4 : Rep Qab := ⟨λx => ([ti x.a,ti x.b,ti x.n]),3,true,λ_ => rfl,λ_ => (Qx (Q9 rfl) (Qx (Q9 rfl) (Qx (Q9 rfl) Qak))),λh => (by cases h)⟩
theorem QqG:TOk prog 212 Q4 24 (.agg #[(.int .i64 0),(.int .i64 0),(.int .i64 0)]):=⟨⟨_,underlying212,rfl⟩,by kernel_rfl,rfl⟩
def zc212:∀F w,QS (Q4.cs (Qab.mk (0:Int) (0:Int) (0:Int))) F w ((.agg #[(.int .i64 0),(.int .i64 0),(.int .i64 0)]):Value).cells.toList:=λ_ _=>(.cons rfl (.cons rfl (.cons rfl .nil)))
def zok212:∀F w,(Q4.ty (Qab.mk (0:Int) (0:Int) (0:Int))).ok F w (.agg #[(.int .i64 0),(.int .i64 0),(.int .i64 0)]):=λF w=>⟨_,rfl,zc212 F w⟩
def zv212:(prog.info? 212).bind (·.zero)=some (.agg #[(.int .i64 0),(.int .i64 0),(.int .i64 0)]):=by kernel_rfl
def pl212 : ∀ w, ((#[⟨"a", 3, 0, false, "", "diorama/bounds", 0⟩, ⟨"b", 3, 1, false, "", "diorama/bounds", 8⟩, ⟨"n", 3, 2, false, "", "diorama/bounds", 16⟩] : Array Field).mapM (fun f => do pure (f.offset, ← sizeOf f.type) : Field → Sem (Nat × Nat))).run Tryz.prog w = .ok #[(0, 1), (1, 1), (2, 1)] w := fun _ => by kernel_rfl
@[reducible] def tF233 (p : (Str -> Option Bool)) : Ty := tfn prog [] (A := Str) (B := Bool) (λx => [tv (.string (sB x))]) (λy => tb y) (p)
@[reducible] def Qkz : Rep (Str -> Option Bool) := ⟨λp => [tF233 p],1,false,λ_ => rfl,λ_ => Qx Qb1 Qak,λ_ => rfl⟩
theorem tok233:TOk prog 233 Qkz 8 .nilFunc:=⟨⟨_,underlying233,rfl⟩,by kernel_rfl,rfl⟩
@[reducible] def tF238 (p : (QR -> Option Bool)) : Ty := tfn prog [] (A := QR) (B := Bool) (λx => [Qat.ty x]) (λy => tb y) (p)
@[reducible] def QkA : Rep (QR -> Option Bool) := ⟨λp => [tF238 p],1,false,λ_ => rfl,λ_ => Qx Qb1 Qak,λ_ => rfl⟩
theorem tok238:TOk prog 238 QkA 8 .nilFunc:=⟨⟨_,underlying238,rfl⟩,by kernel_rfl,rfl⟩
@[reducible] def tF264 (p : (Int -> Option Bool)) : Ty := tfn prog [] (A := Int) (B := Bool) (λx => [tv (.int .u8 x)]) (λy => tb y) (p)
@[reducible] def QnM : Rep (Int -> Option Bool) := ⟨λp => [tF264 p],1,false,λ_ => rfl,λ_ => Qx Qb1 Qak,λ_ => rfl⟩
theorem Qaz:TOk prog 22 rVal 24 (.slice none 0 0):=⟨⟨_,underlying22,rfl⟩,by kernel_rfl,rfl⟩
def Qve:TOk prog 25 rVal 24 (.slice none 0 0):=⟨⟨_,underlying25,rfl⟩,by kernel_rfl,rfl⟩
def Qhl:TOk prog 29 rVal 24 (.slice none 0 0):=⟨⟨_,underlying29,rfl⟩,by kernel_rfl,rfl⟩
def tokV30:TOk prog 30 rVal 24 (.slice none 0 0):=⟨⟨_,underlying30,rfl⟩,by kernel_rfl,rfl⟩
def Qlr:TOk prog 31 rVal 24 (.slice none 0 0):=⟨⟨_,underlying31,rfl⟩,by kernel_rfl,rfl⟩
def Qfr:TOk prog 45 rVal 24 (.slice none 0 0):=⟨⟨_,underlying45,rfl⟩,by kernel_rfl,rfl⟩
def Qvf:TOk prog 58 rVal 24 (.slice none 0 0):=⟨⟨_,underlying58,rfl⟩,by kernel_rfl,rfl⟩
def QeR:TOk prog 68 rVal 24 (.slice none 0 0):=⟨⟨_,underlying68,rfl⟩,by kernel_rfl,rfl⟩
def Qvg:TOk prog 75 rVal 24 (.slice none 0 0):=⟨⟨_,underlying75,rfl⟩,by kernel_rfl,rfl⟩
def tokV77:TOk prog 77 rVal 24 (.slice none 0 0):=⟨⟨_,underlying77,rfl⟩,by kernel_rfl,rfl⟩
def Qhm:TOk prog 22 (rSn rI) 24 (.slice none 0 0):=⟨⟨_,underlying22,rfl⟩,by kernel_rfl,rfl⟩
def zokN22:∀F w,((rSn rI).ty []).ok F w (.slice none 0 0):=λ_ _=>⟨⟨none,0,rfl,Nat.le_refl _,λh=>(h rfl).elim⟩,λ_=>rfl⟩
def tokN68:TOk prog 68 (rSl (rSn rI)) 24 (.slice none 0 0):=⟨⟨_,underlying68,rfl⟩,by kernel_rfl,rfl⟩
def QsA:Qy prog 33 0 0:=Qy.mk underlying33 rfl rfl tok3 (by decide)
def Qdo:Qy prog 33 1 1:=Qy.mk underlying33 rfl rfl Qku (by decide)
def Qzz:Qy prog 33 2 2:=Qy.mk underlying33 rfl rfl tok30 (by decide)
def Qj2:Qy prog 33 3 3:=Qy.mk underlying33 rfl rfl QCA (by decide)
def Qhc:Qy prog 47 0 0:=Qy.mk underlying47 rfl rfl tok9 (by decide)
def Qox:Qy prog 47 1 1:=Qy.mk underlying47 rfl rfl tok3 (by decide)
def Qoy:Qy prog 47 2 2:=Qy.mk underlying47 rfl rfl tok3 (by decide)
def Qcw:Qy prog 47 3 3:=Qy.mk underlying47 rfl rfl Qkt (by decide)
def Qmg:Qy prog 49 0 0:=Qy.mk underlying49 rfl rfl tok9 (by decide)
def Qoz:Qy prog 49 1 1:=Qy.mk underlying49 rfl rfl tok9 (by decide)
def QsB:Qy prog 49 2 2:=Qy.mk underlying49 rfl rfl tok9 (by decide)
def QhH:Qy prog 49 3 3:=Qy.mk underlying49 rfl rfl tok3 (by decide)
def Qmh:Qy prog 49 4 4:=Qy.mk underlying49 rfl rfl tok3 (by decide)
def Qmi:Qy prog 49 5 5:=Qy.mk underlying49 rfl rfl tok3 (by decide)
def QzA:Qy prog 49 6 6:=Qy.mk underlying49 rfl rfl Qjr (by decide)
def QzB:Qy prog 49 7 7:=Qy.mk underlying49 rfl rfl QtG (by decide)
def QzC:Qy prog 64 0 0:=Qy.mk underlying64 rfl rfl tok3 (by decide)
def QzD:Qy prog 64 1 1:=Qy.mk underlying64 rfl rfl tok3 (by decide)
def QsC:Qy prog 64 2 2:=Qy.mk underlying64 rfl rfl tok3 (by decide)
def QzE:Qy prog 66 0 0:=Qy.mk underlying66 rfl rfl tok3 (by decide)
def QzF:Qy prog 66 1 1:=Qy.mk underlying66 rfl rfl tok9 (by decide)
def QzG:Qy prog 66 2 2:=Qy.mk underlying66 rfl rfl QnJ (by decide)
def QzH:Qy prog 67 0 0:=Qy.mk underlying67 rfl rfl tok3 (by decide)
def QzI:Qy prog 67 1 1:=Qy.mk underlying67 rfl rfl tok3 (by decide)
def QzJ:Qy prog 67 2 2:=Qy.mk underlying67 rfl rfl tok3 (by decide)
def QsD:Qy prog 79 0 0:=Qy.mk underlying79 rfl rfl Qbk (by decide)
def Qj3:Qy prog 79 1 4:=Qy.mk underlying79 rfl rfl Qmf (by decide)
def QzK:Qy prog 79 2 5:=Qy.mk underlying79 rfl rfl tok76 (by decide)
def QzL:Qy prog 79 3 6:=Qy.mk underlying79 rfl rfl QtH (by decide)
def QkB:Qy prog 104 0 0:=Qy.mk underlying104 rfl rfl tok9 (by decide)
def QqH:Qy prog 104 1 1:=Qy.mk underlying104 rfl rfl tok9 (by decide)
def QmS:Qy prog 104 2 2:=Qy.mk underlying104 rfl rfl tok9 (by decide)
def QmT:Qy prog 104 3 3:=Qy.mk underlying104 rfl rfl tok9 (by decide)
def QmU:Qy prog 104 4 4:=Qy.mk underlying104 rfl rfl tok3 (by decide)
def Qxv:Qy prog 107 0 0:=Qy.mk underlying107 rfl rfl QtG (by decide)
def Qxw:Qy prog 107 1 1:=Qy.mk underlying107 rfl rfl tok3 (by decide)
def Qxx:Qy prog 111 0 0:=Qy.mk underlying111 rfl rfl tok9 (by decide)
def Qxy:Qy prog 111 1 1:=Qy.mk underlying111 rfl rfl Qjr (by decide)
def Qxz:Qy prog 111 2 2:=Qy.mk underlying111 rfl rfl QtH (by decide)
def QxA:Qy prog 119 0 0:=Qy.mk underlying119 rfl rfl tok3 (by decide)
def QxB:Qy prog 119 1 1:=Qy.mk underlying119 rfl rfl tok9 (by decide)
def QxC:Qy prog 119 2 2:=Qy.mk underlying119 rfl rfl QtJ (by decide)
def QxD:Qy prog 146 0 0:=Qy.mk underlying146 rfl rfl tok3 (by decide)
def QxE:Qy prog 146 1 1:=Qy.mk underlying146 rfl rfl tok3 (by decide)
def QxF:Qy prog 146 2 2:=Qy.mk underlying146 rfl rfl tok3 (by decide)
def QxG:Qy prog 146 3 3:=Qy.mk underlying146 rfl rfl tok4 (by decide)
def QxH:Qy prog 149 3 3:=Qy.mk underlying149 rfl rfl Qp8 (by decide)
def QxI:Qy prog 155 0 0:=Qy.mk underlying155 rfl rfl tok4 (by decide)
def QxJ:Qy prog 155 1 1:=Qy.mk underlying155 rfl rfl Qp8 (by decide)
def QqI:Qy prog 159 0 0:=Qy.mk underlying159 rfl rfl Qu5 (by decide)
def QxK:Qy prog 163 0 0:=Qy.mk underlying163 rfl rfl Qbk (by decide)
def QxL:Qy prog 163 1 4:=Qy.mk underlying163 rfl rfl tok3 (by decide)
def QxM:Qy prog 163 2 5:=Qy.mk underlying163 rfl rfl tok3 (by decide)
def QxN:Qy prog 163 3 6:=Qy.mk underlying163 rfl rfl QaW (by decide)
def QxO:Qy prog 182 3 3:=Qy.mk underlying182 rfl rfl Qp8 (by decide)
def QxP:Qy prog 183 0 0:=Qy.mk underlying183 rfl rfl tok3 (by decide)
def QxQ:Qy prog 183 1 1:=Qy.mk underlying183 rfl rfl tok3 (by decide)
def QxR:Qy prog 183 2 2:=Qy.mk underlying183 rfl rfl tok3 (by decide)
def QxS:Qy prog 183 3 3:=Qy.mk underlying183 rfl rfl tok4 (by decide)
def QmV:Qy prog 212 0 0:=Qy.mk underlying212 rfl rfl tok3 (by decide)
def QmW:Qy prog 212 1 1:=Qy.mk underlying212 rfl rfl tok3 (by decide)
def QqJ:Qy prog 212 2 2:=Qy.mk underlying212 rfl rfl tok3 (by decide)
def call8:Qh prog 8:=⟨⟨_,func8,by kernel_rfl,rfl⟩⟩
def call9:Qh prog 9:=⟨⟨_,func9,by kernel_rfl,rfl⟩⟩
def call10:Qh prog 10:=⟨⟨_,func10,by kernel_rfl,rfl⟩⟩
def QqK:Qh prog 11:=⟨⟨_,func11,by kernel_rfl,rfl⟩⟩
def Qvh:Qh prog 12:=⟨⟨_,func12,by kernel_rfl,rfl⟩⟩
def call13:Qh prog 13:=⟨⟨_,func13,by kernel_rfl,rfl⟩⟩
def call14:Qh prog 14:=⟨⟨_,func14,by kernel_rfl,rfl⟩⟩
def call15:Qh prog 15:=⟨⟨_,func15,by kernel_rfl,rfl⟩⟩
def call16:Qh prog 16:=⟨⟨_,func16,by kernel_rfl,rfl⟩⟩
def call17:Qh prog 17:=⟨⟨_,func17,by kernel_rfl,rfl⟩⟩
def QqL:Qh prog 18:=⟨⟨_,func18,by kernel_rfl,rfl⟩⟩
def Qvi:Qh prog 19:=⟨⟨_,func19,by kernel_rfl,rfl⟩⟩
def Qvj:Qh prog 20:=⟨⟨_,func20,by kernel_rfl,rfl⟩⟩
def call25:Qh prog 25:=⟨⟨_,func25,by kernel_rfl,rfl⟩⟩
def call26:Qh prog 26:=⟨⟨_,func26,by kernel_rfl,rfl⟩⟩
def call28:Qh prog 28:=⟨⟨_,func28,by kernel_rfl,rfl⟩⟩
def Qvk:Qh prog 29:=⟨⟨_,func29,by kernel_rfl,rfl⟩⟩
def Qvl:Qh prog 30:=⟨⟨_,func30,by kernel_rfl,rfl⟩⟩
def QqM:Qh prog 31:=⟨⟨_,func31,by kernel_rfl,rfl⟩⟩
def QqN:Qh prog 32:=⟨⟨_,func32,by kernel_rfl,rfl⟩⟩
def Qvm:Qh prog 33:=⟨⟨_,func33,by kernel_rfl,rfl⟩⟩
def QqO:Qh prog 34:=⟨⟨_,func34,by kernel_rfl,rfl⟩⟩
def QqP:Qh prog 35:=⟨⟨_,func35,by kernel_rfl,rfl⟩⟩
def Qvn:Qh prog 36:=⟨⟨_,func36,by kernel_rfl,rfl⟩⟩
def Qvo:Qh prog 37:=⟨⟨_,func37,by kernel_rfl,rfl⟩⟩
def Qvp:Qh prog 38:=⟨⟨_,func38,by kernel_rfl,rfl⟩⟩
def call39:Qh prog 39:=⟨⟨_,func39,by kernel_rfl,rfl⟩⟩
def Qls:Qh prog 40:=⟨⟨_,func40,by kernel_rfl,rfl⟩⟩
def Qvq:Qh prog 41:=⟨⟨_,func41,by kernel_rfl,rfl⟩⟩
def QnN:Qh prog 42:=⟨⟨_,func42,by kernel_rfl,rfl⟩⟩
def Qvr:Qh prog 43:=⟨⟨_,func43,by kernel_rfl,rfl⟩⟩
def call44:Qh prog 44:=⟨⟨_,func44,by kernel_rfl,rfl⟩⟩
def QqQ:Qh prog 45:=⟨⟨_,func45,by kernel_rfl,rfl⟩⟩
def Qvs:Qh prog 46:=⟨⟨_,func46,by kernel_rfl,rfl⟩⟩
def Qvt:Qh prog 47:=⟨⟨_,func47,by kernel_rfl,rfl⟩⟩
def call48:Qh prog 48:=⟨⟨_,func48,by kernel_rfl,rfl⟩⟩
def Qvu:Qh prog 49:=⟨⟨_,func49,by kernel_rfl,rfl⟩⟩
def Qfs:Qh prog 50:=⟨⟨_,func50,by kernel_rfl,rfl⟩⟩
def Qvv:Qh prog 51:=⟨⟨_,func51,by kernel_rfl,rfl⟩⟩
def call52:Qh prog 52:=⟨⟨_,func52,by kernel_rfl,rfl⟩⟩
def call53:Qh prog 53:=⟨⟨_,func53,by kernel_rfl,rfl⟩⟩
def QqR:Qh prog 54:=⟨⟨_,func54,by kernel_rfl,rfl⟩⟩
def Qvw:Qh prog 55:=⟨⟨_,func55,by kernel_rfl,rfl⟩⟩
def call63:Qh prog 63:=⟨⟨_,func63,by kernel_rfl,rfl⟩⟩
def call67:Qh prog 67:=⟨⟨_,func67,by kernel_rfl,rfl⟩⟩
def call70:Qh prog 70:=⟨⟨_,func70,by kernel_rfl,rfl⟩⟩
def call77:Qh prog 77:=⟨⟨_,func77,by kernel_rfl,rfl⟩⟩
def Qlt:Qh prog 78:=⟨⟨_,func78,by kernel_rfl,rfl⟩⟩
def call79:Qh prog 79:=⟨⟨_,func79,by kernel_rfl,rfl⟩⟩
def call80:Qh prog 80:=⟨⟨_,func80,by kernel_rfl,rfl⟩⟩
def Qvx:Qh prog 81:=⟨⟨_,func81,by kernel_rfl,rfl⟩⟩
def Qvy:Qh prog 82:=⟨⟨_,func82,by kernel_rfl,rfl⟩⟩
def Qvz:Qh prog 83:=⟨⟨_,func83,by kernel_rfl,rfl⟩⟩
def QvA:Qh prog 84:=⟨⟨_,func84,by kernel_rfl,rfl⟩⟩
def call85:Qh prog 85:=⟨⟨_,func85,by kernel_rfl,rfl⟩⟩
def call86:Qh prog 86:=⟨⟨_,func86,by kernel_rfl,rfl⟩⟩
def QvB:Qh prog 87:=⟨⟨_,func87,by kernel_rfl,rfl⟩⟩
def QvC:Qh prog 89:=⟨⟨_,func89,by kernel_rfl,rfl⟩⟩
def call90:Qh prog 90:=⟨⟨_,func90,by kernel_rfl,rfl⟩⟩
def QqS:Qh prog 91:=⟨⟨_,func91,by kernel_rfl,rfl⟩⟩
def QvD:Qh prog 92:=⟨⟨_,func92,by kernel_rfl,rfl⟩⟩
def QqT:Qh prog 93:=⟨⟨_,func93,by kernel_rfl,rfl⟩⟩
def call95:Qh prog 95:=⟨⟨_,func95,by kernel_rfl,rfl⟩⟩
def call98:Qh prog 98:=⟨⟨_,func98,by kernel_rfl,rfl⟩⟩
def call99:Qh prog 99:=⟨⟨_,func99,by kernel_rfl,rfl⟩⟩
def QzM:Qh prog 100:=⟨⟨_,func100,by kernel_rfl,rfl⟩⟩
def QzN:Qh prog 101:=⟨⟨_,func101,by kernel_rfl,rfl⟩⟩
def QsE:Qh prog 102:=⟨⟨_,func102,by kernel_rfl,rfl⟩⟩
def QzO:Qh prog 103:=⟨⟨_,func103,by kernel_rfl,rfl⟩⟩
def QsF:Qh prog 104:=⟨⟨_,func104,by kernel_rfl,rfl⟩⟩
def QzP:Qh prog 105:=⟨⟨_,func105,by kernel_rfl,rfl⟩⟩
def QzQ:Qh prog 106:=⟨⟨_,func106,by kernel_rfl,rfl⟩⟩
def QoA:Qh prog 107:=⟨⟨_,func107,by kernel_rfl,rfl⟩⟩
def QzR:Qh prog 108:=⟨⟨_,func108,by kernel_rfl,rfl⟩⟩
def QzS:Qh prog 109:=⟨⟨_,func109,by kernel_rfl,rfl⟩⟩
def QoB:Qh prog 110:=⟨⟨_,func110,by kernel_rfl,rfl⟩⟩
def QoC:Qh prog 111:=⟨⟨_,func111,by kernel_rfl,rfl⟩⟩
def QoD:Qh prog 112:=⟨⟨_,func112,by kernel_rfl,rfl⟩⟩
def QzT:Qh prog 113:=⟨⟨_,func113,by kernel_rfl,rfl⟩⟩
def QzU:Qh prog 114:=⟨⟨_,func114,by kernel_rfl,rfl⟩⟩
def QzV:Qh prog 119:=⟨⟨_,func119,by kernel_rfl,rfl⟩⟩
def QzW:Qh prog 120:=⟨⟨_,func120,by kernel_rfl,rfl⟩⟩
def QzX:Qh prog 121:=⟨⟨_,func121,by kernel_rfl,rfl⟩⟩
def QzY:Qh prog 122:=⟨⟨_,func122,by kernel_rfl,rfl⟩⟩
def QzZ:Qh prog 123:=⟨⟨_,func123,by kernel_rfl,rfl⟩⟩
def Qz0:Qh prog 124:=⟨⟨_,func124,by kernel_rfl,rfl⟩⟩
def Qz1:Qh prog 125:=⟨⟨_,func125,by kernel_rfl,rfl⟩⟩
def Qz2:Qh prog 126:=⟨⟨_,func126,by kernel_rfl,rfl⟩⟩
def Qz3:Qh prog 127:=⟨⟨_,func127,by kernel_rfl,rfl⟩⟩
def Qz4:Qh prog 128:=⟨⟨_,func128,by kernel_rfl,rfl⟩⟩
def Qz5:Qh prog 129:=⟨⟨_,func129,by kernel_rfl,rfl⟩⟩
def Qz6:Qh prog 130:=⟨⟨_,func130,by kernel_rfl,rfl⟩⟩
def Qz7:Qh prog 131:=⟨⟨_,func131,by kernel_rfl,rfl⟩⟩
def QoE:Qh prog 132:=⟨⟨_,func132,by kernel_rfl,rfl⟩⟩
def QsG:Qh prog 133:=⟨⟨_,func133,by kernel_rfl,rfl⟩⟩
def Qz8:Qh prog 134:=⟨⟨_,func134,by kernel_rfl,rfl⟩⟩
def Qz9:Qh prog 146:=⟨⟨_,func146,by kernel_rfl,rfl⟩⟩
def QAa:Qh prog 147:=⟨⟨_,func147,by kernel_rfl,rfl⟩⟩
def QAb:Qh prog 148:=⟨⟨_,func148,by kernel_rfl,rfl⟩⟩
def QAc:Qh prog 149:=⟨⟨_,func149,by kernel_rfl,rfl⟩⟩
def QAd:Qh prog 150:=⟨⟨_,func150,by kernel_rfl,rfl⟩⟩
def QAe:Qh prog 151:=⟨⟨_,func151,by kernel_rfl,rfl⟩⟩
def QAf:Qh prog 152:=⟨⟨_,func152,by kernel_rfl,rfl⟩⟩
def QAg:Qh prog 153:=⟨⟨_,func153,by kernel_rfl,rfl⟩⟩
def QAh:Qh prog 154:=⟨⟨_,func154,by kernel_rfl,rfl⟩⟩
def QAi:Qh prog 155:=⟨⟨_,func155,by kernel_rfl,rfl⟩⟩
def QAj:Qh prog 156:=⟨⟨_,func156,by kernel_rfl,rfl⟩⟩
def QAk:Qh prog 157:=⟨⟨_,func157,by kernel_rfl,rfl⟩⟩
def QAl:Qh prog 161:=⟨⟨_,func161,by kernel_rfl,rfl⟩⟩
def QAm:Qh prog 162:=⟨⟨_,func162,by kernel_rfl,rfl⟩⟩
def QAn:Qh prog 163:=⟨⟨_,func163,by kernel_rfl,rfl⟩⟩
def QAo:Qh prog 164:=⟨⟨_,func164,by kernel_rfl,rfl⟩⟩
def QAp:Qh prog 165:=⟨⟨_,func165,by kernel_rfl,rfl⟩⟩
def QAq:Qh prog 166:=⟨⟨_,func166,by kernel_rfl,rfl⟩⟩
def QAr:Qh prog 167:=⟨⟨_,func167,by kernel_rfl,rfl⟩⟩
def QAs:Qh prog 168:=⟨⟨_,func168,by kernel_rfl,rfl⟩⟩
def QAt:Qh prog 169:=⟨⟨_,func169,by kernel_rfl,rfl⟩⟩
def QAu:Qh prog 170:=⟨⟨_,func170,by kernel_rfl,rfl⟩⟩
def QAv:Qh prog 171:=⟨⟨_,func171,by kernel_rfl,rfl⟩⟩
def QhI:Qh prog 173:=⟨⟨_,func173,by kernel_rfl,rfl⟩⟩
def QsH:Qh prog 174:=⟨⟨_,func174,by kernel_rfl,rfl⟩⟩
def QoF:Qh prog 175:=⟨⟨_,func175,by kernel_rfl,rfl⟩⟩
def QsI:Qh prog 177:=⟨⟨_,func177,by kernel_rfl,rfl⟩⟩
def QoG:Qh prog 178:=⟨⟨_,func178,by kernel_rfl,rfl⟩⟩
def QAw:Qh prog 185:=⟨⟨_,func185,by kernel_rfl,rfl⟩⟩
def QAx:Qh prog 186:=⟨⟨_,func186,by kernel_rfl,rfl⟩⟩
def QAy:Qh prog 187:=⟨⟨_,func187,by kernel_rfl,rfl⟩⟩
def QAz:Qh prog 188:=⟨⟨_,func188,by kernel_rfl,rfl⟩⟩
def QAA:Qh prog 189:=⟨⟨_,func189,by kernel_rfl,rfl⟩⟩
def QAB:Qh prog 190:=⟨⟨_,func190,by kernel_rfl,rfl⟩⟩
def QAC:Qh prog 191:=⟨⟨_,func191,by kernel_rfl,rfl⟩⟩
def QAD:Qh prog 192:=⟨⟨_,func192,by kernel_rfl,rfl⟩⟩
def QAE:Qh prog 194:=⟨⟨_,func194,by kernel_rfl,rfl⟩⟩
def QsJ:Qh prog 195:=⟨⟨_,func195,by kernel_rfl,rfl⟩⟩
def QsK:Qh prog 196:=⟨⟨_,func196,by kernel_rfl,rfl⟩⟩
def QAF:Qh prog 197:=⟨⟨_,func197,by kernel_rfl,rfl⟩⟩
def QAG:Qh prog 198:=⟨⟨_,func198,by kernel_rfl,rfl⟩⟩
def QAH:Qh prog 199:=⟨⟨_,func199,by kernel_rfl,rfl⟩⟩
def QAI:Qh prog 200:=⟨⟨_,func200,by kernel_rfl,rfl⟩⟩
def QAJ:Qh prog 201:=⟨⟨_,func201,by kernel_rfl,rfl⟩⟩
def QAK:Qh prog 202:=⟨⟨_,func202,by kernel_rfl,rfl⟩⟩
def QAL:Qh prog 203:=⟨⟨_,func203,by kernel_rfl,rfl⟩⟩
def QAM:Qh prog 204:=⟨⟨_,func204,by kernel_rfl,rfl⟩⟩
def QAN:Qh prog 205:=⟨⟨_,func205,by kernel_rfl,rfl⟩⟩
def QAO:Qh prog 209:=⟨⟨_,func209,by kernel_rfl,rfl⟩⟩
def QAP:Qh prog 211:=⟨⟨_,func211,by kernel_rfl,rfl⟩⟩
def QAQ:Qh prog 213:=⟨⟨_,func213,by kernel_rfl,rfl⟩⟩
def QAR:Qh prog 214:=⟨⟨_,func214,by kernel_rfl,rfl⟩⟩
def QAS:Qh prog 215:=⟨⟨_,func215,by kernel_rfl,rfl⟩⟩
def QAT:Qh prog 216:=⟨⟨_,func216,by kernel_rfl,rfl⟩⟩
def QAU:Qh prog 217:=⟨⟨_,func217,by kernel_rfl,rfl⟩⟩
def QAV:Qh prog 218:=⟨⟨_,func218,by kernel_rfl,rfl⟩⟩
def QAW:Qh prog 219:=⟨⟨_,func219,by kernel_rfl,rfl⟩⟩
def QAX:Qh prog 220:=⟨⟨_,func220,by kernel_rfl,rfl⟩⟩
def QAY:Qh prog 221:=⟨⟨_,func221,by kernel_rfl,rfl⟩⟩
def QAZ:Qh prog 222:=⟨⟨_,func222,by kernel_rfl,rfl⟩⟩
def QA0:Qh prog 223:=⟨⟨_,func223,by kernel_rfl,rfl⟩⟩
def QA1:Qh prog 226:=⟨⟨_,func226,by kernel_rfl,rfl⟩⟩
def QA2:Qh prog 227:=⟨⟨_,func227,by kernel_rfl,rfl⟩⟩
def QA3:Qh prog 228:=⟨⟨_,func228,by kernel_rfl,rfl⟩⟩
def QA4:Qh prog 229:=⟨⟨_,func229,by kernel_rfl,rfl⟩⟩
def QoH:Qh prog 230:=⟨⟨_,func230,by kernel_rfl,rfl⟩⟩
def QA5:Qh prog 231:=⟨⟨_,func231,by kernel_rfl,rfl⟩⟩
def QA6:Qh prog 260:=⟨⟨_,func260,by kernel_rfl,rfl⟩⟩
def QsL:Qh prog 263:=⟨⟨_,func263,by kernel_rfl,rfl⟩⟩
def QsM:Qh prog 264:=⟨⟨_,func264,by kernel_rfl,rfl⟩⟩
def QsN:Qh prog 265:=⟨⟨_,func265,by kernel_rfl,rfl⟩⟩
def QsO:Qh prog 266:=⟨⟨_,func266,by kernel_rfl,rfl⟩⟩
def QA7:Qh prog 267:=⟨⟨_,func267,by kernel_rfl,rfl⟩⟩
def QsP:Qh prog 268:=⟨⟨_,func268,by kernel_rfl,rfl⟩⟩
def QA8:Qh prog 269:=⟨⟨_,func269,by kernel_rfl,rfl⟩⟩
def QsQ:Qh prog 270:=⟨⟨_,func270,by kernel_rfl,rfl⟩⟩
def QA9:Qh prog 271:=⟨⟨_,func271,by kernel_rfl,rfl⟩⟩
def QsR:Qh prog 272:=⟨⟨_,func272,by kernel_rfl,rfl⟩⟩
def QsS:TOk prog 81 rVal 8 .nilFunc:=⟨⟨_,underlying81,rfl⟩,by kernel_rfl,rfl⟩
def tokP73:TOk prog 73 rVal 8 (.pointer none):=⟨⟨_,underlying73,rfl⟩,by kernel_rfl,rfl⟩
section
variable {M:Fr} {w0:World} {n:Nat} {Γ:List (Nat×Ty)} {As:List Atom} {a:Act} {w:World}
def _root_.Go.Sim.St.t1_0 {x0:Nat×Ty} (h:St M w0 n Γ As a w) (is:List Nat) (p:Qc9 Γ is=[x0]:=by exact rfl) (q:As=[]:=by exact rfl):St M w0 n [x0] [] a w:=h.to is _ _ p q
def _root_.Go.Sim.St.t2_0 {x0 x1:Nat×Ty} (h:St M w0 n Γ As a w) (is:List Nat) (p:Qc9 Γ is=[x0,x1]:=by exact rfl) (q:As=[]:=by exact rfl):St M w0 n [x0,x1] [] a w:=h.to is _ _ p q
def _root_.Go.Sim.St.t2_1 {x0 x1:Nat×Ty} {y0:Atom} (h:St M w0 n Γ As a w) (is:List Nat) (p:Qc9 Γ is=[x0,x1]:=by exact rfl) (q:As=[y0]:=by exact rfl):St M w0 n [x0,x1] [y0] a w:=h.to is _ _ p q
def _root_.Go.Sim.St.t3_0 {x0 x1 x2:Nat×Ty} (h:St M w0 n Γ As a w) (is:List Nat) (p:Qc9 Γ is=[x0,x1,x2]:=by exact rfl) (q:As=[]:=by exact rfl):St M w0 n [x0,x1,x2] [] a w:=h.to is _ _ p q
def _root_.Go.Sim.St.t4_0 {x0 x1 x2 x3:Nat×Ty} (h:St M w0 n Γ As a w) (is:List Nat) (p:Qc9 Γ is=[x0,x1,x2,x3]:=by exact rfl) (q:As=[]:=by exact rfl):St M w0 n [x0,x1,x2,x3] [] a w:=h.to is _ _ p q
def _root_.Go.Sim.St.t4_1 {x0 x1 x2 x3:Nat×Ty} {y0:Atom} (h:St M w0 n Γ As a w) (is:List Nat) (p:Qc9 Γ is=[x0,x1,x2,x3]:=by exact rfl) (q:As=[y0]:=by exact rfl):St M w0 n [x0,x1,x2,x3] [y0] a w:=h.to is _ _ p q
def _root_.Go.Sim.St.t6_4 {x0 x1 x2 x3 x4 x5:Nat×Ty} {y0 y1 y2 y3:Atom} (h:St M w0 n Γ As a w) (is:List Nat) (p:Qc9 Γ is=[x0,x1,x2,x3,x4,x5]:=by exact rfl) (q:As=[y0,y1,y2,y3]:=by exact rfl):St M w0 n [x0,x1,x2,x3,x4,x5] [y0,y1,y2,y3] a w:=h.to is _ _ p q
def _root_.Go.Sim.St.t9_5 {x0 x1 x2 x3 x4 x5 x6 x7 x8:Nat×Ty} {y0 y1 y2 y3 y4:Atom} (h:St M w0 n Γ As a w) (is:List Nat) (p:Qc9 Γ is=[x0,x1,x2,x3,x4,x5,x6,x7,x8]:=by exact rfl) (q:As=[y0,y1,y2,y3,y4]:=by exact rfl):St M w0 n [x0,x1,x2,x3,x4,x5,x6,x7,x8] [y0,y1,y2,y3,y4] a w:=h.to is _ _ p q
def _root_.Go.Sim.St.t11_9 {x0 x1 x2 x3 x4 x5 x6 x7 x8 x9 x10:Nat×Ty} {y0 y1 y2 y3 y4 y5 y6 y7 y8:Atom} (h:St M w0 n Γ As a w) (is:List Nat) (p:Qc9 Γ is=[x0,x1,x2,x3,x4,x5,x6,x7,x8,x9,x10]:=by exact rfl) (q:As=[y0,y1,y2,y3,y4,y5,y6,y7,y8]:=by exact rfl):St M w0 n [x0,x1,x2,x3,x4,x5,x6,x7,x8,x9,x10] [y0,y1,y2,y3,y4,y5,y6,y7,y8] a w:=h.to is _ _ p q
end
abbrev zz0:Qd:=(Qd.mk ([]:Str) ([]:Str) ([]:Str) (0:Int) (0:Int) (0:Int) ([]:(List Str)) ([]:(List Int)))
abbrev zz1:Qi:=(Qi.mk ([]:Str) (0:Int) (0:Int) ([]:(List Qd)))
abbrev zz2:QC:=(QC.mk ([]:Str) ([]:(List Str)) ([]:(List QR)))
abbrev zz3:Qp:=(Qp.mk ([]:Str) ([]:Str) ([]:Str) ([]:Str) (0:Int))
abbrev zz4:Qb:=(Qb.mk (0:Int) ([]:(List Qi)) ([]:(List QC)) ([]:(List Qp)))
abbrev zz5:Qab:=(Qab.mk (0:Int) (0:Int) (0:Int))
abbrev Qqb:=underlying112
abbrev Qqc:=underlying176
abbrev QnO:=underlying178
abbrev ud22:=underlying22
abbrev QnP:=underlying240
abbrev Qqd:=underlying249
abbrev ud25:=underlying25
abbrev ud29:=underlying29
abbrev ud3:=underlying3
abbrev ud31:=underlying31
abbrev ud45:=underlying45
abbrev ud49:=underlying49
abbrev ud5:=underlying5
abbrev ud60:=underlying60
abbrev ud68:=underlying68
abbrev ud75:=underlying75
abbrev ud76:=underlying76
abbrev ud86:=underlying86
abbrev ud9:=underlying9

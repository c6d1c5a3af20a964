/- Closed facts on the types and functions of the translation. No condition. -/
import Derived.Test.YtlajingmjmnfgaaGreatDoorSimX
import Derived.Test.YtlajingmjmnfgaaGreatDoorRows
set_option linter.all false
open Go.Proofs.Tryz
namespace Go.Proofs.YtlajingmjmnfgaaGreatDoor
open Go.Sim
def mixed:prog.follows .mixedOrders=true:=by kernel_rfl
def mx:prog.follows .mixedOrders=true:=mixed
def Qh7:List (Value×Value):=[(.int .i64 0,.agg #[.func (.func 263) #[] #[]]),(.int .i64 1,.agg #[.func (.func 264) #[] #[]]),(.int .i64 4,.agg #[.func (.func 265) #[] #[]]),(.int .i64 5,.agg #[.func (.func 266) #[] #[]]),(.int .i64 6,.agg #[.func (.func 268) #[] #[]]),(.int .i64 7,.agg #[.func (.func 270) #[] #[]]),(.int .i64 8,.agg #[.func (.func 272) #[] #[]])]
def Qvo:Ty:=Qmn Qh7
def QtX:List Ty:=[Qvo]
def tokM0:TOk prog 161 (rMapC Qh7) 8 (.map none):=⟨⟨_,underlying161,rfl⟩,(by kernel_rfl:(prog.info? 161).map (λi=>(i.zero,i.size,i.bytes))=some (some (.map none),1,8)),rfl⟩
def Qkc:List Str:=[[107,101,121],[114,101,102],[110,117,109],[112,105,99,107],[100,97,121],[115,116,101,112],[115,117,109],[115,104,97,114,101],[99,111,112,121]]
def QtY:List Ty:=Qkc.flatMap rS.cs
def QqQ:List Int:=[1,10,100,1000,10000,100000,1000000,10000000,100000000,1000000000,10000000000,100000000000,1000000000000,10000000000000,100000000000000,1000000000000000,10000000000000000,100000000000000000,1000000000000000000,10000000000000000000]
def QtZ:List Ty:=QqQ.flatMap (rInt .u64).cs
def Qt0:List Int:=[0,1,28,2,29,14,24,3,30,22,20,15,25,17,4,8,31,27,13,23,21,19,16,7,26,12,18,6,11,5,10,9]
def tglo3:List Ty:=Qt0.flatMap (rInt .u8).cs
def Qt1:List Int:=[0,1,56,2,57,49,28,3,61,58,42,50,38,29,17,4,62,47,59,36,45,43,51,22,53,39,33,30,24,18,12,5,63,55,48,27,60,41,37,16,46,35,44,21,52,32,23,11,54,26,40,15,34,20,31,10,25,14,19,9,13,8,7,6]
def tglo4:List Ty:=Qt1.flatMap (rInt .u8).cs
abbrev bld:=bldE 242 5
def glo:Atom:=gloA [(0,QtX),(1,QtY),(2,QtZ),(3,tglo3),(4,tglo4)]
def QqR:∀k,¬glo.fp k:=λ_ h=>h
def _root_.Go.Sim.OpJ.glo {P:Program} {o:Oper} {Γ:List (Nat×Ty)} {U E:List Atom} {N:Value->List Atom} {T:Value->Ty} (h:OpJ P o Γ U (glo::E) N T):OpJ P o Γ (glo::U) E N T:=OpJ.gloG QqR h
def Qz9:Qmm glo 0 QtX:=QoE (by simp)
def QxV:Qlz glo 0 QtX:=Qz9.has
def QAa:Qmm glo 1 QtY:=QoE (by simp)
def QxW:Qlz glo 1 QtY:=QAa.has
def QAb:Qmm glo 2 QtZ:=QoE (by simp)
def tok3:TOk prog 3 rI 8 (.int .i64 0):=⟨⟨_,underlying3,rfl⟩,by kernel_rfl,rfl⟩
def zok3:∀F w,(rI.ty (0:Int)).ok F w (.int .i64 0):=λ_ _=>rfl
def tok4:TOk prog 4 Qa2 1 (.bool false):=⟨⟨_,underlying4,rfl⟩,by kernel_rfl,rfl⟩
def zok4:∀F w,(Qa2.ty false).ok F w (.bool false):=λ_ _=>rfl
def tok5:TOk prog 5 (rInt .u8) 1 (.int .u8 0):=⟨⟨_,underlying5,rfl⟩,by kernel_rfl,rfl⟩
def tok9:TOk prog 9 rS 16 (.string .empty):=⟨⟨_,underlying9,rfl⟩,by kernel_rfl,rfl⟩
def QnO:TOk prog 20 (rAny 3 9) 16 .nilIface:=⟨⟨_,underlying20,rfl⟩,by kernel_rfl,rfl⟩
def Qt2:TOk prog 22 (rSl rI) 24 (.slice none 0 0):=⟨⟨_,underlying22,rfl⟩,by kernel_rfl,rfl⟩
def QiR:TOk prog 25 (rSl rS) 24 (.slice none 0 0):=⟨⟨_,underlying25,rfl⟩,by kernel_rfl,rfl⟩
def zok25:∀F w,((rSl rS).ty ([]:(List Str))).ok F w (.slice none 0 0):=λ_ _=>⟨none,0,rfl,Nat.le_refl _,λh=>(h rfl).elim⟩
def Qql:TOk prog 26 rI 8 (.int .i64 0):=⟨⟨_,underlying26,rfl⟩,by kernel_rfl,rfl⟩
structure Qc where
  Xj:Str
  Of:Str
  Up:Str
  Xi:Int
  Lo:Int
  Hi:Int
  Words:(List Str)
  Xf:(List Int)
deriving Inhabited
@[reducible] def Qe : Rep Qc := ⟨λx => ([tv (.string (sB x.Xj)),tv (.string (sB x.Of)),tv (.string (sB x.Up)),ti x.Xi,ti x.Lo,ti x.Hi,tsl rS x.Words,tsl rI x.Xf]),8,true,λ_ => rfl,λ_ => (Qv (Q9 rfl) (Qv (Q9 rfl) (Qv (Q9 rfl) (Qv (Q9 rfl) (Qv (Q9 rfl) (Qv (Q9 rfl) (Qv Qca (Qv Qca Qak)))))))),λh => (by cases h)⟩
theorem Qa4:TOk prog 49 Qe 120 (.agg #[(.string .empty),(.string .empty),(.string .empty),(.int .i64 0),(.int .i64 0),(.int .i64 0),(.slice none 0 0),(.slice none 0 0)]):=⟨⟨_,underlying49,rfl⟩,by kernel_rfl,rfl⟩
def zc49:∀F w,QS (Qe.cs (Qc.mk ([]:Str) ([]:Str) ([]:Str) (0:Int) (0:Int) (0:Int) ([]:(List Str)) ([]:(List Int)))) F w ((.agg #[(.string .empty),(.string .empty),(.string .empty),(.int .i64 0),(.int .i64 0),(.int .i64 0),(.slice none 0 0),(.slice none 0 0)]):Value).cells.toList:=λ_ _=>(.cons rfl (.cons rfl (.cons rfl (.cons rfl (.cons rfl (.cons rfl (.cons ⟨none,0,rfl,Nat.le_refl _,λh=>(h rfl).elim⟩ (.cons ⟨none,0,rfl,Nat.le_refl _,λh=>(h rfl).elim⟩ .nil))))))))
def Qmp:∀F w,(Qe.ty (Qc.mk ([]:Str) ([]:Str) ([]:Str) (0:Int) (0:Int) (0:Int) ([]:(List Str)) ([]:(List Int)))).ok F w (.agg #[(.string .empty),(.string .empty),(.string .empty),(.int .i64 0),(.int .i64 0),(.int .i64 0),(.slice none 0 0),(.slice none 0 0)]):=λF w=>⟨_,rfl,zc49 F w⟩
def zv49:(prog.info? 49).bind (·.zero)=some (.agg #[(.string .empty),(.string .empty),(.string .empty),(.int .i64 0),(.int .i64 0),(.int .i64 0),(.slice none 0 0),(.slice none 0 0)]):=by kernel_rfl
def pl49 : ∀ w, ((#[⟨"Name", 9, 0, false, "", "", 0⟩, ⟨"Of", 9, 1, false, "", "", 16⟩, ⟨"Up", 9, 2, false, "", "", 32⟩, ⟨"Kind", 3, 3, false, "", "", 48⟩, ⟨"Lo", 3, 4, false, "", "", 56⟩, ⟨"Hi", 3, 5, false, "", "", 64⟩, ⟨"Words", 25, 6, false, "", "", 72⟩, ⟨"Weights", 22, 7, false, "", "", 96⟩] : Array Field).mapM (fun f => do pure (f.offset, ← sizeOf f.type) : Field → Sem (Nat × Nat))).run Tryz.prog w = .ok #[(0, 1), (1, 1), (2, 1), (3, 1), (4, 1), (5, 1), (6, 1), (7, 1)] w := fun _ => by kernel_rfl
def QxX:(∀F w,QS ([tv (.string (sB ([]:Str))),tv (.string (sB ([]:Str))),tv (.string (sB ([]:Str))),ti (0:Int),ti (0:Int),ti (0:Int),tsl rS ([]:(List Str)),tvs nilV]) F w ((.agg #[(.string .empty),(.string .empty),(.string .empty),(.int .i64 0),(.int .i64 0),(.int .i64 0),(.slice none 0 0),(.slice none 0 0)]):Value).cells.toList)/\([tv (.string (sB ([]:Str))),tv (.string (sB ([]:Str))),tv (.string (sB ([]:Str))),ti (0:Int),ti (0:Int),ti (0:Int),tsl rS ([]:(List Str)),tvs nilV]).length=8/\Qe.agg=true/\∃cs,((.agg #[(.string .empty),(.string .empty),(.string .empty),(.int .i64 0),(.int .i64 0),(.int .i64 0),(.slice none 0 0),(.slice none 0 0)]):Value)=.agg cs:=⟨λ_ _=>(.cons rfl (.cons rfl (.cons rfl (.cons rfl (.cons rfl (.cons rfl (.cons ⟨none,0,rfl,Nat.le_refl _,λh=>(h rfl).elim⟩ (.cons ⟨rfl,rfl⟩ .nil)))))))),rfl,rfl,_,rfl⟩
def QkE:TOk prog 45 (rSl Qe) 24 (.slice none 0 0):=⟨⟨_,underlying45,rfl⟩,by kernel_rfl,rfl⟩
structure Qg where
  Xj:Str
  Lo:Int
  Hi:Int
  Xb:(List Qc)
deriving Inhabited
@[reducible] def Qk : Rep Qg := ⟨λx => ([tv (.string (sB x.Xj)),ti x.Lo,ti x.Hi,tsl Qe x.Xb]),4,true,λ_ => rfl,λ_ => (Qv (Q9 rfl) (Qv (Q9 rfl) (Qv (Q9 rfl) (Qv Qca Qak)))),λh => (by cases h)⟩
theorem Qdh:TOk prog 47 Qk 56 (.agg #[(.string .empty),(.int .i64 0),(.int .i64 0),(.slice none 0 0)]):=⟨⟨_,underlying47,rfl⟩,by kernel_rfl,rfl⟩
def zc47:∀F w,QS (Qk.cs (Qg.mk ([]:Str) (0:Int) (0:Int) ([]:(List Qc)))) F w ((.agg #[(.string .empty),(.int .i64 0),(.int .i64 0),(.slice none 0 0)]):Value).cells.toList:=λ_ _=>(.cons rfl (.cons rfl (.cons rfl (.cons ⟨none,0,rfl,Nat.le_refl _,λh=>(h rfl).elim⟩ .nil))))
def zok47:∀F w,(Qk.ty (Qg.mk ([]:Str) (0:Int) (0:Int) ([]:(List Qc)))).ok F w (.agg #[(.string .empty),(.int .i64 0),(.int .i64 0),(.slice none 0 0)]):=λF w=>⟨_,rfl,zc47 F w⟩
def zv47:(prog.info? 47).bind (·.zero)=some (.agg #[(.string .empty),(.int .i64 0),(.int .i64 0),(.slice none 0 0)]):=by kernel_rfl
def pl47 : ∀ w, ((#[⟨"Name", 9, 0, false, "", "", 0⟩, ⟨"Lo", 3, 1, false, "", "", 16⟩, ⟨"Hi", 3, 2, false, "", "", 24⟩, ⟨"Fields", 45, 3, false, "", "", 32⟩] : Array Field).mapM (fun f => do pure (f.offset, ← sizeOf f.type) : Field → Sem (Nat × Nat))).run Tryz.prog w = .ok #[(0, 1), (1, 1), (2, 1), (3, 1)] w := fun _ => by kernel_rfl
def QxY:(∀F w,QS ([tv (.string (sB ([]:Str))),ti (0:Int),ti (0:Int),tvs nilV]) F w ((.agg #[(.string .empty),(.int .i64 0),(.int .i64 0),(.slice none 0 0)]):Value).cells.toList)/\([tv (.string (sB ([]:Str))),ti (0:Int),ti (0:Int),tvs nilV]).length=4/\Qk.agg=true/\∃cs,((.agg #[(.string .empty),(.int .i64 0),(.int .i64 0),(.slice none 0 0)]):Value)=.agg cs:=⟨λ_ _=>(.cons rfl (.cons rfl (.cons rfl (.cons ⟨rfl,rfl⟩ .nil)))),rfl,rfl,_,rfl⟩
def QkF:TOk prog 29 (rSl Qk) 24 (.slice none 0 0):=⟨⟨_,underlying29,rfl⟩,by kernel_rfl,rfl⟩
structure QO where
  a0:Int
  a1:Int
deriving Inhabited
@[reducible] def Qaq : Rep QO := ⟨λx => ([ti x.a0,ti x.a1]),2,true,λ_ => rfl,λ_ => (Qv (Q9 rfl) (Qv (Q9 rfl) Qak)),λh => (by cases h)⟩
theorem Qvp:TOk prog 112 Qaq 16 (.agg #[(.int .i64 0),(.int .i64 0)]):=⟨⟨_,underlying112,rfl⟩,by kernel_rfl,rfl⟩
def zc112:∀F w,QS (Qaq.cs (QO.mk (0:Int) (0:Int))) F w ((.agg #[(.int .i64 0),(.int .i64 0)]):Value).cells.toList:=λ_ _=>(.cons rfl (.cons rfl .nil))
def zok112:∀F w,(Qaq.ty (QO.mk (0:Int) (0:Int))).ok F w (.agg #[(.int .i64 0),(.int .i64 0)]):=λF w=>⟨_,rfl,zc112 F w⟩
def Qt3:TOk prog 77 (rSl Qaq) 24 (.slice none 0 0):=⟨⟨_,underlying77,rfl⟩,by kernel_rfl,rfl⟩
structure QA where
  Xj:Str
  Xe:(List Str)
  Xg:(List QO)
deriving Inhabited
@[reducible] def QH : Rep QA := ⟨λx => ([tv (.string (sB x.Xj)),tsl rS x.Xe,tsl Qaq x.Xg]),3,true,λ_ => rfl,λ_ => (Qv (Q9 rfl) (Qv Qca (Qv Qca Qak))),λh => (by cases h)⟩
theorem QnP:TOk prog 111 QH 64 (.agg #[(.string .empty),(.slice none 0 0),(.slice none 0 0)]):=⟨⟨_,underlying111,rfl⟩,by kernel_rfl,rfl⟩
def zc111:∀F w,QS (QH.cs (QA.mk ([]:Str) ([]:(List Str)) ([]:(List QO)))) F w ((.agg #[(.string .empty),(.slice none 0 0),(.slice none 0 0)]):Value).cells.toList:=λ_ _=>(.cons rfl (.cons ⟨none,0,rfl,Nat.le_refl _,λh=>(h rfl).elim⟩ (.cons ⟨none,0,rfl,Nat.le_refl _,λh=>(h rfl).elim⟩ .nil)))
def Qvq:∀F w,(QH.ty (QA.mk ([]:Str) ([]:(List Str)) ([]:(List QO)))).ok F w (.agg #[(.string .empty),(.slice none 0 0),(.slice none 0 0)]):=λF w=>⟨_,rfl,zc111 F w⟩
def zv111:(prog.info? 111).bind (·.zero)=some (.agg #[(.string .empty),(.slice none 0 0),(.slice none 0 0)]):=by kernel_rfl
def pl111 : ∀ w, ((#[⟨"Name", 9, 0, false, "", "", 0⟩, ⟨"States", 25, 1, false, "", "", 16⟩, ⟨"Moves", 77, 2, false, "", "", 40⟩] : Array Field).mapM (fun f => do pure (f.offset, ← sizeOf f.type) : Field → Sem (Nat × Nat))).run Tryz.prog w = .ok #[(0, 1), (1, 1), (2, 1)] w := fun _ => by kernel_rfl
def Qvr:(∀F w,QS ([tv (.string (sB ([]:Str))),tsl rS ([]:(List Str)),tvs nilV]) F w ((.agg #[(.string .empty),(.slice none 0 0),(.slice none 0 0)]):Value).cells.toList)/\([tv (.string (sB ([]:Str))),tsl rS ([]:(List Str)),tvs nilV]).length=3/\QH.agg=true/\∃cs,((.agg #[(.string .empty),(.slice none 0 0),(.slice none 0 0)]):Value)=.agg cs:=⟨λ_ _=>(.cons rfl (.cons ⟨none,0,rfl,Nat.le_refl _,λh=>(h rfl).elim⟩ (.cons ⟨rfl,rfl⟩ .nil))),rfl,rfl,_,rfl⟩
def tok30:TOk prog 30 (rSl QH) 24 (.slice none 0 0):=⟨⟨_,underlying30,rfl⟩,by kernel_rfl,rfl⟩
structure Qs where
  Xj:Str
  Xi:Str
  A:Str
  B:Str
  N:Int
deriving Inhabited
@[reducible] def QC : Rep Qs := ⟨λx => ([tv (.string (sB x.Xj)),tv (.string (sB x.Xi)),tv (.string (sB x.A)),tv (.string (sB x.B)),ti x.N]),5,true,λ_ => rfl,λ_ => (Qv (Q9 rfl) (Qv (Q9 rfl) (Qv (Q9 rfl) (Qv (Q9 rfl) (Qv (Q9 rfl) Qak))))),λh => (by cases h)⟩
theorem Qvs:TOk prog 104 QC 72 (.agg #[(.string .empty),(.string .empty),(.string .empty),(.string .empty),(.int .i64 0)]):=⟨⟨_,underlying104,rfl⟩,by kernel_rfl,rfl⟩
def zc104:∀F w,QS (QC.cs (Qs.mk ([]:Str) ([]:Str) ([]:Str) ([]:Str) (0:Int))) F w ((.agg #[(.string .empty),(.string .empty),(.string .empty),(.string .empty),(.int .i64 0)]):Value).cells.toList:=λ_ _=>(.cons rfl (.cons rfl (.cons rfl (.cons rfl (.cons rfl .nil)))))
def zok104:∀F w,(QC.ty (Qs.mk ([]:Str) ([]:Str) ([]:Str) ([]:Str) (0:Int))).ok F w (.agg #[(.string .empty),(.string .empty),(.string .empty),(.string .empty),(.int .i64 0)]):=λF w=>⟨_,rfl,zc104 F w⟩
def zv104:(prog.info? 104).bind (·.zero)=some (.agg #[(.string .empty),(.string .empty),(.string .empty),(.string .empty),(.int .i64 0)]):=by kernel_rfl
def pl104 : ∀ w, ((#[⟨"Name", 9, 0, false, "", "", 0⟩, ⟨"Kind", 9, 1, false, "", "", 16⟩, ⟨"A", 9, 2, false, "", "", 32⟩, ⟨"B", 9, 3, false, "", "", 48⟩, ⟨"N", 3, 4, false, "", "", 64⟩] : Array Field).mapM (fun f => do pure (f.offset, ← sizeOf f.type) : Field → Sem (Nat × Nat))).run Tryz.prog w = .ok #[(0, 1), (1, 1), (2, 1), (3, 1), (4, 1)] w := fun _ => by kernel_rfl
def tok31:TOk prog 31 (rSl QC) 24 (.slice none 0 0):=⟨⟨_,underlying31,rfl⟩,by kernel_rfl,rfl⟩
structure Qb where
  Version:Int
  Xa:(List Qg)
  Xd:(List QA)
  Xc:(List Qs)
deriving Inhabited
@[reducible] def Qd : Rep Qb := ⟨λx => ([ti x.Version,tsl Qk x.Xa,tsl QH x.Xd,tsl QC x.Xc]),4,true,λ_ => rfl,λ_ => (Qv (Q9 rfl) (Qv Qca (Qv Qca (Qv Qca Qak)))),λh => (by cases h)⟩
theorem Qcm:TOk prog 33 Qd 80 (.agg #[(.int .i64 0),(.slice none 0 0),(.slice none 0 0),(.slice none 0 0)]):=⟨⟨_,underlying33,rfl⟩,by kernel_rfl,rfl⟩
def zc33:∀F w,QS (Qd.cs (Qb.mk (0:Int) ([]:(List Qg)) ([]:(List QA)) ([]:(List Qs)))) F w ((.agg #[(.int .i64 0),(.slice none 0 0),(.slice none 0 0),(.slice none 0 0)]):Value).cells.toList:=λ_ _=>(.cons rfl (.cons ⟨none,0,rfl,Nat.le_refl _,λh=>(h rfl).elim⟩ (.cons ⟨none,0,rfl,Nat.le_refl _,λh=>(h rfl).elim⟩ (.cons ⟨none,0,rfl,Nat.le_refl _,λh=>(h rfl).elim⟩ .nil))))
def zok33:∀F w,(Qd.ty (Qb.mk (0:Int) ([]:(List Qg)) ([]:(List QA)) ([]:(List Qs)))).ok F w (.agg #[(.int .i64 0),(.slice none 0 0),(.slice none 0 0),(.slice none 0 0)]):=λF w=>⟨_,rfl,zc33 F w⟩
def zv33:(prog.info? 33).bind (·.zero)=some (.agg #[(.int .i64 0),(.slice none 0 0),(.slice none 0 0),(.slice none 0 0)]):=by kernel_rfl
def pl33 : ∀ w, ((#[⟨"Version", 3, 0, false, "", "", 0⟩, ⟨"Kinds", 29, 1, false, "", "", 8⟩, ⟨"Lives", 30, 2, false, "", "", 32⟩, ⟨"Rules", 31, 3, false, "", "", 56⟩] : Array Field).mapM (fun f => do pure (f.offset, ← sizeOf f.type) : Field → Sem (Nat × Nat))).run Tryz.prog w = .ok #[(0, 1), (1, 1), (2, 1), (3, 1)] w := fun _ => by kernel_rfl
def QqS:(∀F w,QS ([ti (0:Int),tvs nilV,tvs nilV,tvs nilV]) F w ((.agg #[(.int .i64 0),(.slice none 0 0),(.slice none 0 0),(.slice none 0 0)]):Value).cells.toList)/\([ti (0:Int),tvs nilV,tvs nilV,tvs nilV]).length=4/\Qd.agg=true/\∃cs,((.agg #[(.int .i64 0),(.slice none 0 0),(.slice none 0 0),(.slice none 0 0)]):Value)=.agg cs:=⟨λ_ _=>(.cons rfl (.cons ⟨rfl,rfl⟩ (.cons ⟨rfl,rfl⟩ (.cons ⟨rfl,rfl⟩ .nil)))),rfl,rfl,_,rfl⟩
structure QE where
  A:Int
  B:Int
  N:Int
deriving Inhabited
@[reducible] def Qad : Rep QE := ⟨λx => ([ti x.A,ti x.B,ti x.N]),3,true,λ_ => rfl,λ_ => (Qv (Q9 rfl) (Qv (Q9 rfl) (Qv (Q9 rfl) Qak))),λh => (by cases h)⟩
theorem QnQ:TOk prog 64 Qad 24 (.agg #[(.int .i64 0),(.int .i64 0),(.int .i64 0)]):=⟨⟨_,underlying64,rfl⟩,by kernel_rfl,rfl⟩
def zc64:∀F w,QS (Qad.cs (QE.mk (0:Int) (0:Int) (0:Int))) F w ((.agg #[(.int .i64 0),(.int .i64 0),(.int .i64 0)]):Value).cells.toList:=λ_ _=>(.cons rfl (.cons rfl (.cons rfl .nil)))
def zok64:∀F w,(Qad.ty (QE.mk (0:Int) (0:Int) (0:Int))).ok F w (.agg #[(.int .i64 0),(.int .i64 0),(.int .i64 0)]):=λF w=>⟨_,rfl,zc64 F w⟩
def zv64:(prog.info? 64).bind (·.zero)=some (.agg #[(.int .i64 0),(.int .i64 0),(.int .i64 0)]):=by kernel_rfl
def pl64 : ∀ w, ((#[⟨"A", 3, 0, false, "", "", 0⟩, ⟨"B", 3, 1, false, "", "", 8⟩, ⟨"N", 3, 2, false, "", "", 16⟩] : Array Field).mapM (fun f => do pure (f.offset, ← sizeOf f.type) : Field → Sem (Nat × Nat))).run Tryz.prog w = .ok #[(0, 1), (1, 1), (2, 1)] w := fun _ => by kernel_rfl
structure QI where
  Xi:Int
  Xj:Str
  Xu:QE
deriving Inhabited
@[reducible] def QW : Rep QI := ⟨λx => ([ti x.Xi,tv (.string (sB x.Xj))] ++ Qad.cs x.Xu),5,true,λ_ => rfl,λ_ => (Qi5 (Qv (Q9 rfl) (Qv (Q9 rfl) Qak)) (Qi4 Qad)),λh => (by cases h)⟩
theorem QjF:TOk prog 66 QW 48 (.agg #[(.int .i64 0),(.string .empty),(.int .i64 0),(.int .i64 0),(.int .i64 0)]):=⟨⟨_,underlying66,rfl⟩,by kernel_rfl,rfl⟩
def zc66:∀F w,QS (QW.cs (QI.mk (0:Int) ([]:Str) (QE.mk (0:Int) (0:Int) (0:Int)))) F w ((.agg #[(.int .i64 0),(.string .empty),(.int .i64 0),(.int .i64 0),(.int .i64 0)]):Value).cells.toList:=λ_ _=>(.cons rfl (.cons rfl (.cons rfl (.cons rfl (.cons rfl .nil)))))
def zv66:(prog.info? 66).bind (·.zero)=some (.agg #[(.int .i64 0),(.string .empty),(.int .i64 0),(.int .i64 0),(.int .i64 0)]):=by kernel_rfl
def pl66 : ∀ w, ((#[⟨"Kind", 3, 0, false, "", "", 0⟩, ⟨"Name", 9, 1, false, "", "", 8⟩, ⟨"Diff", 64, 2, false, "", "", 24⟩] : Array Field).mapM (fun f => do pure (f.offset, ← sizeOf f.type) : Field → Sem (Nat × Nat))).run Tryz.prog w = .ok #[(0, 1), (1, 1), (2, 3)] w := fun _ => by kernel_rfl
def Qt4:TOk prog 67 Qad 24 (.agg #[(.int .i64 0),(.int .i64 0),(.int .i64 0)]):=⟨⟨_,underlying67,rfl⟩,by kernel_rfl,rfl⟩
def zc67:∀F w,QS (Qad.cs (QE.mk (0:Int) (0:Int) (0:Int))) F w ((.agg #[(.int .i64 0),(.int .i64 0),(.int .i64 0)]):Value).cells.toList:=λ_ _=>(.cons rfl (.cons rfl (.cons rfl .nil)))
def zok67:∀F w,(Qad.ty (QE.mk (0:Int) (0:Int) (0:Int))).ok F w (.agg #[(.int .i64 0),(.int .i64 0),(.int .i64 0)]):=λF w=>⟨_,rfl,zc67 F w⟩
def zv67:(prog.info? 67).bind (·.zero)=some (.agg #[(.int .i64 0),(.int .i64 0),(.int .i64 0)]):=by kernel_rfl
def pl67 : ∀ w, ((#[⟨"A", 3, 0, false, "", "", 0⟩, ⟨"B", 3, 1, false, "", "", 8⟩, ⟨"N", 3, 2, false, "", "", 16⟩] : Array Field).mapM (fun f => do pure (f.offset, ← sizeOf f.type) : Field → Sem (Nat × Nat))).run Tryz.prog w = .ok #[(0, 1), (1, 1), (2, 1)] w := fun _ => by kernel_rfl
def tok68:TOk prog 68 (rSl (rSl rI)) 24 (.slice none 0 0):=⟨⟨_,underlying68,rfl⟩,by kernel_rfl,rfl⟩
structure Qi where
  A:Int
  B:Int
  Mul:Int
  Xh:Bool
deriving Inhabited
@[reducible] def QP : Rep Qi := ⟨λx => ([ti x.A,ti x.B,ti x.Mul,tb x.Xh]),4,true,λ_ => rfl,λ_ => (Qv (Q9 rfl) (Qv (Q9 rfl) (Qv (Q9 rfl) (Qv (Q9 rfl) Qak)))),λh => (by cases h)⟩
theorem QqT:TOk prog 146 QP 32 (.agg #[(.int .i64 0),(.int .i64 0),(.int .i64 0),(.bool false)]):=⟨⟨_,underlying146,rfl⟩,by kernel_rfl,rfl⟩
def zc146:∀F w,QS (QP.cs (Qi.mk (0:Int) (0:Int) (0:Int) false)) F w ((.agg #[(.int .i64 0),(.int .i64 0),(.int .i64 0),(.bool false)]):Value).cells.toList:=λ_ _=>(.cons rfl (.cons rfl (.cons rfl (.cons rfl .nil))))
def zok146:∀F w,(QP.ty (Qi.mk (0:Int) (0:Int) (0:Int) false)).ok F w (.agg #[(.int .i64 0),(.int .i64 0),(.int .i64 0),(.bool false)]):=λF w=>⟨_,rfl,zc146 F w⟩
def zv146:(prog.info? 146).bind (·.zero)=some (.agg #[(.int .i64 0),(.int .i64 0),(.int .i64 0),(.bool false)]):=by kernel_rfl
def pl146 : ∀ w, ((#[⟨"A", 3, 0, false, "", "", 0⟩, ⟨"B", 3, 1, false, "", "", 8⟩, ⟨"Mul", 3, 2, false, "", "", 16⟩, ⟨"Least", 4, 3, false, "", "", 24⟩] : Array Field).mapM (fun f => do pure (f.offset, ← sizeOf f.type) : Field → Sem (Nat × Nat))).run Tryz.prog w = .ok #[(0, 1), (1, 1), (2, 1), (3, 1)] w := fun _ => by kernel_rfl
def Qmq:TOk prog 75 (rSl QP) 24 (.slice none 0 0):=⟨⟨_,underlying75,rfl⟩,by kernel_rfl,rfl⟩
structure QU where
  kind:Int
  name:Str
  Xu:QE
deriving Inhabited
@[reducible] def QV : Rep QU := ⟨λx => ([ti x.kind,tv (.string (sB x.name))] ++ Qad.cs x.Xu),5,true,λ_ => rfl,λ_ => (Qi5 (Qv (Q9 rfl) (Qv (Q9 rfl) Qak)) (Qi4 Qad)),λh => (by cases h)⟩
theorem Qkd:TOk prog 119 QV 48 (.agg #[(.int .i64 0),(.string .empty),(.int .i64 0),(.int .i64 0),(.int .i64 0)]):=⟨⟨_,underlying119,rfl⟩,by kernel_rfl,rfl⟩
def QnR:∀F w,QS (QV.cs (QU.mk (0:Int) ([]:Str) (QE.mk (0:Int) (0:Int) (0:Int)))) F w ((.agg #[(.int .i64 0),(.string .empty),(.int .i64 0),(.int .i64 0),(.int .i64 0)]):Value).cells.toList:=λ_ _=>(.cons rfl (.cons rfl (.cons rfl (.cons rfl (.cons rfl .nil)))))
def zok119:∀F w,(QV.ty (QU.mk (0:Int) ([]:Str) (QE.mk (0:Int) (0:Int) (0:Int)))).ok F w (.agg #[(.int .i64 0),(.string .empty),(.int .i64 0),(.int .i64 0),(.int .i64 0)]):=λF w=>⟨_,rfl,QnR F w⟩
def Qqm:(prog.info? 119).bind (·.zero)=some (.agg #[(.int .i64 0),(.string .empty),(.int .i64 0),(.int .i64 0),(.int .i64 0)]):=by kernel_rfl
def Qqn : ∀ w, ((#[⟨"kind", 3, 0, false, "", "diorama/core", 0⟩, ⟨"name", 9, 1, false, "", "diorama/core", 8⟩, ⟨"Diff", 67, 2, true, "", "", 24⟩] : Array Field).mapM (fun f => do pure (f.offset, ← sizeOf f.type) : Field → Sem (Nat × Nat))).run Tryz.prog w = .ok #[(0, 1), (1, 1), (2, 3)] w := fun _ => by kernel_rfl
def tok76:TOk prog 76 (rSl QV) 24 (.slice none 0 0):=⟨⟨_,underlying76,rfl⟩,by kernel_rfl,rfl⟩
structure Qa6 where
  x:Qb
  Xo:(List Qi)
  Xt:(List QU)
  refs:(List QO)
deriving Inhabited
@[reducible] def QT : Rep Qa6 := ⟨λx => (Qd.cs x.x ++ [tsl QP x.Xo,tsl QV x.Xt,tsl Qaq x.refs]),7,true,λ_ => rfl,λ_ => (Qi5 (Qi4 Qd) (Qv Qca (Qv Qca (Qv Qca Qak)))),λh => (by cases h)⟩
theorem zv79:(prog.info? 79).bind (·.zero)=some (.agg #[(.int .i64 0),(.slice none 0 0),(.slice none 0 0),(.slice none 0 0),(.slice none 0 0),(.slice none 0 0),(.slice none 0 0)]):=by kernel_rfl
def pl79 : ∀ w, ((#[⟨"x", 33, 0, false, "", "diorama/core", 0⟩, ⟨"limits", 75, 4, false, "", "diorama/core", 80⟩, ⟨"diffs", 76, 5, false, "", "diorama/core", 104⟩, ⟨"refs", 77, 6, false, "", "diorama/core", 128⟩] : Array Field).mapM (fun f => do pure (f.offset, ← sizeOf f.type) : Field → Sem (Nat × Nat))).run Tryz.prog w = .ok #[(0, 4), (4, 1), (5, 1), (6, 1)] w := fun _ => by kernel_rfl
def QxZ:(∀F w,QS (Qd.cs (Qb.mk (0:Int) ([]:(List Qg)) ([]:(List QA)) ([]:(List Qs)))++[tsl QP ([]:(List Qi)),tsl QV ([]:(List QU)),tvs nilV]) F w ((.agg #[(.int .i64 0),(.slice none 0 0),(.slice none 0 0),(.slice none 0 0),(.slice none 0 0),(.slice none 0 0),(.slice none 0 0)]):Value).cells.toList)/\(Qd.cs (Qb.mk (0:Int) ([]:(List Qg)) ([]:(List QA)) ([]:(List Qs)))++[tsl QP ([]:(List Qi)),tsl QV ([]:(List QU)),tvs nilV]).length=7/\QT.agg=true/\∃cs,((.agg #[(.int .i64 0),(.slice none 0 0),(.slice none 0 0),(.slice none 0 0),(.slice none 0 0),(.slice none 0 0),(.slice none 0 0)]):Value)=.agg cs:=⟨λ_ _=>(.cons rfl (.cons ⟨none,0,rfl,Nat.le_refl _,λh=>(h rfl).elim⟩ (.cons ⟨none,0,rfl,Nat.le_refl _,λh=>(h rfl).elim⟩ (.cons ⟨none,0,rfl,Nat.le_refl _,λh=>(h rfl).elim⟩ (.cons ⟨none,0,rfl,Nat.le_refl _,λh=>(h rfl).elim⟩ (.cons ⟨none,0,rfl,Nat.le_refl _,λh=>(h rfl).elim⟩ (.cons ⟨rfl,rfl⟩ .nil))))))),rfl,rfl,_,rfl⟩
def QiS:TOk prog 73 (rPtr QT) 8 (.pointer none):=⟨⟨_,underlying73,rfl⟩,by kernel_rfl,rfl⟩
@[reducible] def tF81 (p : (Int -> Option Bool)) : Ty := tfn prog [] (A := Int) (B := Bool) (λx => [ti x]) (λy => tb y) (p)
@[reducible] def rF81 : Rep (Int -> Option Bool) := ⟨λp => [tF81 p],1,false,λ_ => rfl,λ_ => Qv Qcc Qak,λ_ => rfl⟩
theorem Qt5:TOk prog 81 rF81 8 .nilFunc:=⟨⟨_,underlying81,rfl⟩,by kernel_rfl,rfl⟩
def Qh8:TOk prog 86 (rInt .u64) 8 (.int .u64 0):=⟨⟨_,underlying86,rfl⟩,by kernel_rfl,rfl⟩
def zok86:∀F w,((rInt .u64).ty (0:Int)).ok F w (.int .u64 0):=λ_ _=>rfl
structure Qt where
  L:(List Int)
  I:Int
deriving Inhabited
@[reducible] def Qr : Rep Qt := ⟨λx => ([tsl rI x.L,ti x.I]),2,true,λ_ => rfl,λ_ => (Qv Qca (Qv (Q9 rfl) Qak)),λh => (by cases h)⟩
theorem Qvt:TOk prog 107 Qr 32 (.agg #[(.slice none 0 0),(.int .i64 0)]):=⟨⟨_,underlying107,rfl⟩,by kernel_rfl,rfl⟩
def zc107:∀F w,QS (Qr.cs (Qt.mk ([]:(List Int)) (0:Int))) F w ((.agg #[(.slice none 0 0),(.int .i64 0)]):Value).cells.toList:=λ_ _=>(.cons ⟨none,0,rfl,Nat.le_refl _,λh=>(h rfl).elim⟩ (.cons rfl .nil))
def zv107:(prog.info? 107).bind (·.zero)=some (.agg #[(.slice none 0 0),(.int .i64 0)]):=by kernel_rfl
def pl107 : ∀ w, ((#[⟨"L", 22, 0, false, "", "", 0⟩, ⟨"I", 3, 1, false, "", "", 24⟩] : Array Field).mapM (fun f => do pure (f.offset, ← sizeOf f.type) : Field → Sem (Nat × Nat))).run Tryz.prog w = .ok #[(0, 1), (1, 1)] w := fun _ => by kernel_rfl
@[reducible] def tF130 (p : (Qs -> Option Bool)) : Ty := tfn prog [] (A := Qs) (B := Bool) (λx => [QC.ty x]) (λy => tb y) (p)
@[reducible] def QkG : Rep (Qs -> Option Bool) := ⟨λp => [tF130 p],1,false,λ_ => rfl,λ_ => Qv Qcc Qak,λ_ => rfl⟩
theorem tok130:TOk prog 130 QkG 8 .nilFunc:=⟨⟨_,underlying130,rfl⟩,by kernel_rfl,rfl⟩
structure Qz where
  Xi:Int
  Field:Int
  Rule:Int
  Code:Int
deriving Inhabited
@[reducible] def Q8 : Rep Qz := ⟨λx => ([ti x.Xi,ti x.Field,ti x.Rule,ti x.Code]),4,true,λ_ => rfl,λ_ => (Qv (Q9 rfl) (Qv (Q9 rfl) (Qv (Q9 rfl) (Qv (Q9 rfl) Qak)))),λh => (by cases h)⟩
theorem Qvv:TOk prog 149 Q8 32 (.agg #[(.int .i64 0),(.int .i64 0),(.int .i64 0),(.int .i64 0)]):=⟨⟨_,underlying149,rfl⟩,by kernel_rfl,rfl⟩
def zc149:∀F w,QS (Q8.cs (Qz.mk (0:Int) (0:Int) (0:Int) (0:Int))) F w ((.agg #[(.int .i64 0),(.int .i64 0),(.int .i64 0),(.int .i64 0)]):Value).cells.toList:=λ_ _=>(.cons rfl (.cons rfl (.cons rfl (.cons rfl .nil))))
def zv149:(prog.info? 149).bind (·.zero)=some (.agg #[(.int .i64 0),(.int .i64 0),(.int .i64 0),(.int .i64 0)]):=by kernel_rfl
def pl149 : ∀ w, ((#[⟨"Kind", 3, 0, false, "", "", 0⟩, ⟨"Field", 3, 1, false, "", "", 8⟩, ⟨"Rule", 3, 2, false, "", "", 16⟩, ⟨"Code", 26, 3, false, "", "", 24⟩] : Array Field).mapM (fun f => do pure (f.offset, ← sizeOf f.type) : Field → Sem (Nat × Nat))).run Tryz.prog w = .ok #[(0, 1), (1, 1), (2, 1), (3, 1)] w := fun _ => by kernel_rfl
@[reducible] def tF152 (p : (QA -> Option Bool)) : Ty := tfn prog [] (A := QA) (B := Bool) (λx => [QH.ty x]) (λy => tb y) (p)
@[reducible] def QkH : Rep (QA -> Option Bool) := ⟨λp => [tF152 p],1,false,λ_ => rfl,λ_ => Qv Qcc Qak,λ_ => rfl⟩
theorem tok152:TOk prog 152 QkH 8 .nilFunc:=⟨⟨_,underlying152,rfl⟩,by kernel_rfl,rfl⟩
structure Qab where
  is:Bool
  code:Int
deriving Inhabited
@[reducible] def Qa8 : Rep Qab := ⟨λx => ([tb x.is,ti x.code]),2,true,λ_ => rfl,λ_ => (Qv (Q9 rfl) (Qv (Q9 rfl) Qak)),λh => (by cases h)⟩
theorem QqU:TOk prog 155 Qa8 16 (.agg #[(.bool false),(.int .i64 0)]):=⟨⟨_,underlying155,rfl⟩,by kernel_rfl,rfl⟩
def Qt6:∀F w,QS (Qa8.cs (Qab.mk false (0:Int))) F w ((.agg #[(.bool false),(.int .i64 0)]):Value).cells.toList:=λ_ _=>(.cons rfl (.cons rfl .nil))
def zok155:∀F w,(Qa8.ty (Qab.mk false (0:Int))).ok F w (.agg #[(.bool false),(.int .i64 0)]):=λF w=>⟨_,rfl,Qt6 F w⟩
def zv155:(prog.info? 155).bind (·.zero)=some (.agg #[(.bool false),(.int .i64 0)]):=by kernel_rfl
def pl155 : ∀ w, ((#[⟨"is", 4, 0, false, "", "diorama/typing", 0⟩, ⟨"code", 26, 1, false, "", "diorama/typing", 8⟩] : Array Field).mapM (fun f => do pure (f.offset, ← sizeOf f.type) : Field → Sem (Nat × Nat))).run Tryz.prog w = .ok #[(0, 1), (1, 1)] w := fun _ => by kernel_rfl
structure Qar where
  x:Qb
  kind:Int
  field:Int
  f:Qc
deriving Inhabited
@[reducible] def QaE : Rep Qar := ⟨λx => (Qd.cs x.x ++ [ti x.kind,ti x.field] ++ Qe.cs x.f),14,true,λ_ => rfl,λ_ => (Qi5 (Qi5 (Qi4 Qd) (Qv (Q9 rfl) (Qv (Q9 rfl) Qak))) (Qi4 Qe)),λh => (by cases h)⟩
theorem Qvx:TOk prog 163 QaE 216 (.agg #[(.int .i64 0),(.slice none 0 0),(.slice none 0 0),(.slice none 0 0),(.int .i64 0),(.int .i64 0),(.string .empty),(.string .empty),(.string .empty),(.int .i64 0),(.int .i64 0),(.int .i64 0),(.slice none 0 0),(.slice none 0 0)]):=⟨⟨_,underlying163,rfl⟩,by kernel_rfl,rfl⟩
def zc163:∀F w,QS (QaE.cs (Qar.mk (Qb.mk (0:Int) ([]:(List Qg)) ([]:(List QA)) ([]:(List Qs))) (0:Int) (0:Int) (Qc.mk ([]:Str) ([]:Str) ([]:Str) (0:Int) (0:Int) (0:Int) ([]:(List Str)) ([]:(List Int))))) F w ((.agg #[(.int .i64 0),(.slice none 0 0),(.slice none 0 0),(.slice none 0 0),(.int .i64 0),(.int .i64 0),(.string .empty),(.string .empty),(.string .empty),(.int .i64 0),(.int .i64 0),(.int .i64 0),(.slice none 0 0),(.slice none 0 0)]):Value).cells.toList:=λ_ _=>(.cons rfl (.cons ⟨none,0,rfl,Nat.le_refl _,λh=>(h rfl).elim⟩ (.cons ⟨none,0,rfl,Nat.le_refl _,λh=>(h rfl).elim⟩ (.cons ⟨none,0,rfl,Nat.le_refl _,λh=>(h rfl).elim⟩ (.cons rfl (.cons rfl (.cons rfl (.cons rfl (.cons rfl (.cons rfl (.cons rfl (.cons rfl (.cons ⟨none,0,rfl,Nat.le_refl _,λh=>(h rfl).elim⟩ (.cons ⟨none,0,rfl,Nat.le_refl _,λh=>(h rfl).elim⟩ .nil))))))))))))))
def zv163:(prog.info? 163).bind (·.zero)=some (.agg #[(.int .i64 0),(.slice none 0 0),(.slice none 0 0),(.slice none 0 0),(.int .i64 0),(.int .i64 0),(.string .empty),(.string .empty),(.string .empty),(.int .i64 0),(.int .i64 0),(.int .i64 0),(.slice none 0 0),(.slice none 0 0)]):=by kernel_rfl
def pl163 : ∀ w, ((#[⟨"x", 33, 0, false, "", "diorama/typing", 0⟩, ⟨"kind", 3, 4, false, "", "diorama/typing", 80⟩, ⟨"field", 3, 5, false, "", "diorama/typing", 88⟩, ⟨"f", 49, 6, false, "", "diorama/typing", 96⟩] : Array Field).mapM (fun f => do pure (f.offset, ← sizeOf f.type) : Field → Sem (Nat × Nat))).run Tryz.prog w = .ok #[(0, 4), (4, 1), (5, 1), (6, 8)] w := fun _ => by kernel_rfl
@[reducible] def tF158 (p : (Qar -> Option Int)) : Ty := tfn prog [] (A := Qar) (B := Int) (λx => [QaE.ty x]) (λy => ti y) (p)
@[reducible] def rF158 : Rep (Qar -> Option Int) := ⟨λp => [tF158 p],1,false,λ_ => rfl,λ_ => Qv Qcc Qak,λ_ => rfl⟩
@[reducible] def Qke : Rep (Option (Qar -> Option Int)) := ⟨λp => [tfo (tF158) p],1,false,λ_ => rfl,λ_ => Qv (QfY (λ_ => Qcc)) Qak,λ_ => rfl⟩
theorem Qvy:TOk prog 158 rF158 8 .nilFunc:=⟨⟨_,underlying158,rfl⟩,by kernel_rfl,rfl⟩
def Qx0:TOk prog 158 Qke 8 .nilFunc:=⟨⟨_,underlying158,rfl⟩,by kernel_rfl,rfl⟩
structure QbZ where
  check:(Option (Qar->Option Int))
instance :Inhabited QbZ:=⟨⟨none⟩⟩
@[reducible] def QcE : Rep QbZ := ⟨λx => ([Qke.ty x.check]),1,true,λ_ => rfl,λ_ => (Qv (QfY (λ_ => Qcc)) Qak),λh => (by cases h)⟩
theorem QnS:TOk prog 159 QcE 8 (.agg #[.nilFunc]):=⟨⟨_,underlying159,rfl⟩,by kernel_rfl,rfl⟩
def zc159:∀F w,QS (QcE.cs (QbZ.mk none)) F w ((.agg #[.nilFunc]):Value).cells.toList:=λ_ _=>(.cons rfl .nil)
def Qvz:∀F w,(QcE.ty (QbZ.mk none)).ok F w (.agg #[.nilFunc]):=λF w=>⟨_,rfl,zc159 F w⟩
def zv159:(prog.info? 159).bind (·.zero)=some (.agg #[.nilFunc]):=by kernel_rfl
structure QF where
  Xi:Int
  Field:Int
  Rule:Int
  Code:Int
deriving Inhabited
@[reducible] def Q3 : Rep QF := ⟨λx => ([ti x.Xi,ti x.Field,ti x.Rule,ti x.Code]),4,true,λ_ => rfl,λ_ => (Qv (Q9 rfl) (Qv (Q9 rfl) (Qv (Q9 rfl) (Qv (Q9 rfl) Qak)))),λh => (by cases h)⟩
theorem QvA:TOk prog 182 Q3 32 (.agg #[(.int .i64 0),(.int .i64 0),(.int .i64 0),(.int .i64 0)]):=⟨⟨_,underlying182,rfl⟩,by kernel_rfl,rfl⟩
def zc182:∀F w,QS (Q3.cs (QF.mk (0:Int) (0:Int) (0:Int) (0:Int))) F w ((.agg #[(.int .i64 0),(.int .i64 0),(.int .i64 0),(.int .i64 0)]):Value).cells.toList:=λ_ _=>(.cons rfl (.cons rfl (.cons rfl (.cons rfl .nil))))
def zv182:(prog.info? 182).bind (·.zero)=some (.agg #[(.int .i64 0),(.int .i64 0),(.int .i64 0),(.int .i64 0)]):=by kernel_rfl
def pl182 : ∀ w, ((#[⟨"Kind", 3, 0, false, "", "", 0⟩, ⟨"Field", 3, 1, false, "", "", 8⟩, ⟨"Rule", 3, 2, false, "", "", 16⟩, ⟨"Code", 26, 3, false, "", "", 24⟩] : Array Field).mapM (fun f => do pure (f.offset, ← sizeOf f.type) : Field → Sem (Nat × Nat))).run Tryz.prog w = .ok #[(0, 1), (1, 1), (2, 1), (3, 1)] w := fun _ => by kernel_rfl
structure QB where
  A:Int
  B:Int
  Mul:Int
  Xh:Bool
deriving Inhabited
@[reducible] def QY : Rep QB := ⟨λx => ([ti x.A,ti x.B,ti x.Mul,tb x.Xh]),4,true,λ_ => rfl,λ_ => (Qv (Q9 rfl) (Qv (Q9 rfl) (Qv (Q9 rfl) (Qv (Q9 rfl) Qak)))),λh => (by cases h)⟩
theorem QvB:TOk prog 183 QY 32 (.agg #[(.int .i64 0),(.int .i64 0),(.int .i64 0),(.bool false)]):=⟨⟨_,underlying183,rfl⟩,by kernel_rfl,rfl⟩
def zc183:∀F w,QS (QY.cs (QB.mk (0:Int) (0:Int) (0:Int) false)) F w ((.agg #[(.int .i64 0),(.int .i64 0),(.int .i64 0),(.bool false)]):Value).cells.toList:=λ_ _=>(.cons rfl (.cons rfl (.cons rfl (.cons rfl .nil))))
def zv183:(prog.info? 183).bind (·.zero)=some (.agg #[(.int .i64 0),(.int .i64 0),(.int .i64 0),(.bool false)]):=by kernel_rfl
def pl183 : ∀ w, ((#[⟨"A", 3, 0, false, "", "", 0⟩, ⟨"B", 3, 1, false, "", "", 8⟩, ⟨"Mul", 3, 2, false, "", "", 16⟩, ⟨"Least", 4, 3, false, "", "", 24⟩] : Array Field).mapM (fun f => do pure (f.offset, ← sizeOf f.type) : Field → Sem (Nat × Nat))).run Tryz.prog w = .ok #[(0, 1), (1, 1), (2, 1), (3, 1)] w := fun _ => by kernel_rfl
@[reducible] def tF202 (p : (Qg -> Option Bool)) : Ty := tfn prog [] (A := Qg) (B := Bool) (λx => [Qk.ty x]) (λy => tb y) (p)
@[reducible] def QkI : Rep (Qg -> Option Bool) := ⟨λp => [tF202 p],1,false,λ_ => rfl,λ_ => Qv Qcc Qak,λ_ => rfl⟩
theorem tok202:TOk prog 202 QkI 8 .nilFunc:=⟨⟨_,underlying202,rfl⟩,by kernel_rfl,rfl⟩
@[reducible] def tF208 (p : (Qc -> Option Bool)) : Ty := tfn prog [] (A := Qc) (B := Bool) (λx => [Qe.ty x]) (λy => tb y) (p)
@[reducible] def QkJ : Rep (Qc -> Option Bool) := ⟨λp => [tF208 p],1,false,λ_ => rfl,λ_ => Qv Qcc Qak,λ_ => rfl⟩
theorem tok208:TOk prog 208 QkJ 8 .nilFunc:=⟨⟨_,underlying208,rfl⟩,by kernel_rfl,rfl⟩
structure Qaa where
  a:Int
  b:Int
  n:Int
deriving Inhabited
@[reducible] def Q4 : Rep Qaa := ⟨λx => ([ti x.a,ti x.b,ti x.n]),3,true,λ_ => rfl,λ_ => (Qv (Q9 rfl) (Qv (Q9 rfl) (Qv (Q9 rfl) Qak))),λh => (by cases h)⟩
theorem QqV:TOk prog 212 Q4 24 (.agg #[(.int .i64 0),(.int .i64 0),(.int .i64 0)]):=⟨⟨_,underlying212,rfl⟩,by kernel_rfl,rfl⟩
def zc212:∀F w,QS (Q4.cs (Qaa.mk (0:Int) (0:Int) (0:Int))) F w ((.agg #[(.int .i64 0),(.int .i64 0),(.int .i64 0)]):Value).cells.toList:=λ_ _=>(.cons rfl (.cons rfl (.cons rfl .nil)))
def zok212:∀F w,(Q4.ty (Qaa.mk (0:Int) (0:Int) (0:Int))).ok F w (.agg #[(.int .i64 0),(.int .i64 0),(.int .i64 0)]):=λF w=>⟨_,rfl,zc212 F w⟩
def zv212:(prog.info? 212).bind (·.zero)=some (.agg #[(.int .i64 0),(.int .i64 0),(.int .i64 0)]):=by kernel_rfl
def pl212 : ∀ w, ((#[⟨"a", 3, 0, false, "", "diorama/bounds", 0⟩, ⟨"b", 3, 1, false, "", "diorama/bounds", 8⟩, ⟨"n", 3, 2, false, "", "diorama/bounds", 16⟩] : Array Field).mapM (fun f => do pure (f.offset, ← sizeOf f.type) : Field → Sem (Nat × Nat))).run Tryz.prog w = .ok #[(0, 1), (1, 1), (2, 1)] w := fun _ => by kernel_rfl
@[reducible] def tF233 (p : (Str -> Option Bool)) : Ty := tfn prog [] (A := Str) (B := Bool) (λx => [tv (.string (sB x))]) (λy => tb y) (p)
@[reducible] def QkK : Rep (Str -> Option Bool) := ⟨λp => [tF233 p],1,false,λ_ => rfl,λ_ => Qv Qcc Qak,λ_ => rfl⟩
theorem tok233:TOk prog 233 QkK 8 .nilFunc:=⟨⟨_,underlying233,rfl⟩,by kernel_rfl,rfl⟩
@[reducible] def tF238 (p : (QO -> Option Bool)) : Ty := tfn prog [] (A := QO) (B := Bool) (λx => [Qaq.ty x]) (λy => tb y) (p)
@[reducible] def QkL : Rep (QO -> Option Bool) := ⟨λp => [tF238 p],1,false,λ_ => rfl,λ_ => Qv Qcc Qak,λ_ => rfl⟩
theorem tok238:TOk prog 238 QkL 8 .nilFunc:=⟨⟨_,underlying238,rfl⟩,by kernel_rfl,rfl⟩
@[reducible] def tF264 (p : (Int -> Option Bool)) : Ty := tfn prog [] (A := Int) (B := Bool) (λx => [tv (.int .u8 x)]) (λy => tb y) (p)
@[reducible] def QnT : Rep (Int -> Option Bool) := ⟨λp => [tF264 p],1,false,λ_ => rfl,λ_ => Qv Qcc Qak,λ_ => rfl⟩
theorem Qaz:TOk prog 22 rVal 24 (.slice none 0 0):=⟨⟨_,underlying22,rfl⟩,by kernel_rfl,rfl⟩
def QvH:TOk prog 25 rVal 24 (.slice none 0 0):=⟨⟨_,underlying25,rfl⟩,by kernel_rfl,rfl⟩
def Qil:TOk prog 29 rVal 24 (.slice none 0 0):=⟨⟨_,underlying29,rfl⟩,by kernel_rfl,rfl⟩
def tokV30:TOk prog 30 rVal 24 (.slice none 0 0):=⟨⟨_,underlying30,rfl⟩,by kernel_rfl,rfl⟩
def QvI:TOk prog 31 rVal 24 (.slice none 0 0):=⟨⟨_,underlying31,rfl⟩,by kernel_rfl,rfl⟩
def QfG:TOk prog 45 rVal 24 (.slice none 0 0):=⟨⟨_,underlying45,rfl⟩,by kernel_rfl,rfl⟩
def QvJ:TOk prog 58 rVal 24 (.slice none 0 0):=⟨⟨_,underlying58,rfl⟩,by kernel_rfl,rfl⟩
def Qe1:TOk prog 68 rVal 24 (.slice none 0 0):=⟨⟨_,underlying68,rfl⟩,by kernel_rfl,rfl⟩
def QvK:TOk prog 75 rVal 24 (.slice none 0 0):=⟨⟨_,underlying75,rfl⟩,by kernel_rfl,rfl⟩
def tokV77:TOk prog 77 rVal 24 (.slice none 0 0):=⟨⟨_,underlying77,rfl⟩,by kernel_rfl,rfl⟩
def Qhx:TOk prog 22 (rSn rI) 24 (.slice none 0 0):=⟨⟨_,underlying22,rfl⟩,by kernel_rfl,rfl⟩
def zokN22:∀F w,((rSn rI).ty []).ok F w (.slice none 0 0):=λ_ _=>⟨⟨none,0,rfl,Nat.le_refl _,λh=>(h rfl).elim⟩,λ_=>rfl⟩
def tokN68:TOk prog 68 (rSl (rSn rI)) 24 (.slice none 0 0):=⟨⟨_,underlying68,rfl⟩,by kernel_rfl,rfl⟩
def QsV:Qx prog 33 0 0:=Qx.mk underlying33 rfl rfl tok3 (by decide)
def Qd1:Qx prog 33 1 1:=Qx.mk underlying33 rfl rfl QkF (by decide)
def QAc:Qx prog 33 2 2:=Qx.mk underlying33 rfl rfl tok30 (by decide)
def QsW:Qx prog 33 3 3:=Qx.mk underlying33 rfl rfl tok31 (by decide)
def QhT:Qx prog 47 0 0:=Qx.mk underlying47 rfl rfl tok9 (by decide)
def QoH:Qx prog 47 1 1:=Qx.mk underlying47 rfl rfl tok3 (by decide)
def QoI:Qx prog 47 2 2:=Qx.mk underlying47 rfl rfl tok3 (by decide)
def QcF:Qx prog 47 3 3:=Qx.mk underlying47 rfl rfl QkE (by decide)
def Qmr:Qx prog 49 0 0:=Qx.mk underlying49 rfl rfl tok9 (by decide)
def QoJ:Qx prog 49 1 1:=Qx.mk underlying49 rfl rfl tok9 (by decide)
def QsX:Qx prog 49 2 2:=Qx.mk underlying49 rfl rfl tok9 (by decide)
def QhU:Qx prog 49 3 3:=Qx.mk underlying49 rfl rfl tok3 (by decide)
def Qms:Qx prog 49 4 4:=Qx.mk underlying49 rfl rfl tok3 (by decide)
def Qmt:Qx prog 49 5 5:=Qx.mk underlying49 rfl rfl tok3 (by decide)
def QAd:Qx prog 49 6 6:=Qx.mk underlying49 rfl rfl QiR (by decide)
def QAe:Qx prog 49 7 7:=Qx.mk underlying49 rfl rfl Qt2 (by decide)
def QAf:Qx prog 64 0 0:=Qx.mk underlying64 rfl rfl tok3 (by decide)
def QAg:Qx prog 64 1 1:=Qx.mk underlying64 rfl rfl tok3 (by decide)
def QsY:Qx prog 64 2 2:=Qx.mk underlying64 rfl rfl tok3 (by decide)
def QAh:Qx prog 66 0 0:=Qx.mk underlying66 rfl rfl tok3 (by decide)
def QAi:Qx prog 66 1 1:=Qx.mk underlying66 rfl rfl tok9 (by decide)
def QAj:Qx prog 66 2 2:=Qx.mk underlying66 rfl rfl QnQ (by decide)
def QAk:Qx prog 67 0 0:=Qx.mk underlying67 rfl rfl tok3 (by decide)
def QAl:Qx prog 67 1 1:=Qx.mk underlying67 rfl rfl tok3 (by decide)
def QAm:Qx prog 67 2 2:=Qx.mk underlying67 rfl rfl tok3 (by decide)
def QsZ:Qx prog 79 0 0:=Qx.mk underlying79 rfl rfl Qcm (by decide)
def Qkf:Qx prog 79 1 4:=Qx.mk underlying79 rfl rfl Qmq (by decide)
def QAn:Qx prog 79 2 5:=Qx.mk underlying79 rfl rfl tok76 (by decide)
def QAo:Qx prog 79 3 6:=Qx.mk underlying79 rfl rfl Qt3 (by decide)
def QkM:Qx prog 104 0 0:=Qx.mk underlying104 rfl rfl tok9 (by decide)
def QqW:Qx prog 104 1 1:=Qx.mk underlying104 rfl rfl tok9 (by decide)
def Qm5:Qx prog 104 2 2:=Qx.mk underlying104 rfl rfl tok9 (by decide)
def Qm6:Qx prog 104 3 3:=Qx.mk underlying104 rfl rfl tok9 (by decide)
def Qm7:Qx prog 104 4 4:=Qx.mk underlying104 rfl rfl tok3 (by decide)
def Qx1:Qx prog 107 0 0:=Qx.mk underlying107 rfl rfl Qt2 (by decide)
def Qx2:Qx prog 107 1 1:=Qx.mk underlying107 rfl rfl tok3 (by decide)
def Qx3:Qx prog 111 0 0:=Qx.mk underlying111 rfl rfl tok9 (by decide)
def Qx4:Qx prog 111 1 1:=Qx.mk underlying111 rfl rfl QiR (by decide)
def Qx5:Qx prog 111 2 2:=Qx.mk underlying111 rfl rfl Qt3 (by decide)
def Qx6:Qx prog 119 0 0:=Qx.mk underlying119 rfl rfl tok3 (by decide)
def Qx7:Qx prog 119 1 1:=Qx.mk underlying119 rfl rfl tok9 (by decide)
def Qx8:Qx prog 119 2 2:=Qx.mk underlying119 rfl rfl Qt4 (by decide)
def Qx9:Qx prog 146 0 0:=Qx.mk underlying146 rfl rfl tok3 (by decide)
def Qya:Qx prog 146 1 1:=Qx.mk underlying146 rfl rfl tok3 (by decide)
def Qyb:Qx prog 146 2 2:=Qx.mk underlying146 rfl rfl tok3 (by decide)
def Qyc:Qx prog 146 3 3:=Qx.mk underlying146 rfl rfl tok4 (by decide)
def Qyd:Qx prog 149 3 3:=Qx.mk underlying149 rfl rfl Qql (by decide)
def Qye:Qx prog 155 0 0:=Qx.mk underlying155 rfl rfl tok4 (by decide)
def Qyf:Qx prog 155 1 1:=Qx.mk underlying155 rfl rfl Qql (by decide)
def QqX:Qx prog 159 0 0:=Qx.mk underlying159 rfl rfl Qvy (by decide)
def Qyg:Qx prog 163 0 0:=Qx.mk underlying163 rfl rfl Qcm (by decide)
def Qyh:Qx prog 163 1 4:=Qx.mk underlying163 rfl rfl tok3 (by decide)
def Qyi:Qx prog 163 2 5:=Qx.mk underlying163 rfl rfl tok3 (by decide)
def Qyj:Qx prog 163 3 6:=Qx.mk underlying163 rfl rfl Qa4 (by decide)
def Qyk:Qx prog 182 3 3:=Qx.mk underlying182 rfl rfl Qql (by decide)
def Qyl:Qx prog 183 0 0:=Qx.mk underlying183 rfl rfl tok3 (by decide)
def Qym:Qx prog 183 1 1:=Qx.mk underlying183 rfl rfl tok3 (by decide)
def Qyn:Qx prog 183 2 2:=Qx.mk underlying183 rfl rfl tok3 (by decide)
def Qyo:Qx prog 183 3 3:=Qx.mk underlying183 rfl rfl tok4 (by decide)
def Qm8:Qx prog 212 0 0:=Qx.mk underlying212 rfl rfl tok3 (by decide)
def Qm9:Qx prog 212 1 1:=Qx.mk underlying212 rfl rfl tok3 (by decide)
def QqY:Qx prog 212 2 2:=Qx.mk underlying212 rfl rfl tok3 (by decide)
def call9:Qh prog 9:=⟨⟨_,func9,by kernel_rfl,rfl⟩⟩
def QvL:Qh prog 11:=⟨⟨_,func11,by kernel_rfl,rfl⟩⟩
def call12:Qh prog 12:=⟨⟨_,func12,by kernel_rfl,rfl⟩⟩
def QvM:Qh prog 13:=⟨⟨_,func13,by kernel_rfl,rfl⟩⟩
def call14:Qh prog 14:=⟨⟨_,func14,by kernel_rfl,rfl⟩⟩
def call15:Qh prog 15:=⟨⟨_,func15,by kernel_rfl,rfl⟩⟩
def call16:Qh prog 16:=⟨⟨_,func16,by kernel_rfl,rfl⟩⟩
def call17:Qh prog 17:=⟨⟨_,func17,by kernel_rfl,rfl⟩⟩
def call18:Qh prog 18:=⟨⟨_,func18,by kernel_rfl,rfl⟩⟩
def QvN:Qh prog 19:=⟨⟨_,func19,by kernel_rfl,rfl⟩⟩
def QvO:Qh prog 20:=⟨⟨_,func20,by kernel_rfl,rfl⟩⟩
def call25:Qh prog 25:=⟨⟨_,func25,by kernel_rfl,rfl⟩⟩
def call26:Qh prog 26:=⟨⟨_,func26,by kernel_rfl,rfl⟩⟩
def QvP:Qh prog 29:=⟨⟨_,func29,by kernel_rfl,rfl⟩⟩
def QvQ:Qh prog 30:=⟨⟨_,func30,by kernel_rfl,rfl⟩⟩
def QqZ:Qh prog 31:=⟨⟨_,func31,by kernel_rfl,rfl⟩⟩
def Qq0:Qh prog 32:=⟨⟨_,func32,by kernel_rfl,rfl⟩⟩
def QvR:Qh prog 33:=⟨⟨_,func33,by kernel_rfl,rfl⟩⟩
def Qq1:Qh prog 34:=⟨⟨_,func34,by kernel_rfl,rfl⟩⟩
def Qq2:Qh prog 35:=⟨⟨_,func35,by kernel_rfl,rfl⟩⟩
def QvS:Qh prog 36:=⟨⟨_,func36,by kernel_rfl,rfl⟩⟩
def QvT:Qh prog 37:=⟨⟨_,func37,by kernel_rfl,rfl⟩⟩
def QvU:Qh prog 38:=⟨⟨_,func38,by kernel_rfl,rfl⟩⟩
def call39:Qh prog 39:=⟨⟨_,func39,by kernel_rfl,rfl⟩⟩
def QnU:Qh prog 40:=⟨⟨_,func40,by kernel_rfl,rfl⟩⟩
def QvV:Qh prog 41:=⟨⟨_,func41,by kernel_rfl,rfl⟩⟩
def QvW:Qh prog 42:=⟨⟨_,func42,by kernel_rfl,rfl⟩⟩
def call44:Qh prog 44:=⟨⟨_,func44,by kernel_rfl,rfl⟩⟩
def Qq3:Qh prog 45:=⟨⟨_,func45,by kernel_rfl,rfl⟩⟩
def QvX:Qh prog 46:=⟨⟨_,func46,by kernel_rfl,rfl⟩⟩
def QvY:Qh prog 47:=⟨⟨_,func47,by kernel_rfl,rfl⟩⟩
def call48:Qh prog 48:=⟨⟨_,func48,by kernel_rfl,rfl⟩⟩
def QvZ:Qh prog 49:=⟨⟨_,func49,by kernel_rfl,rfl⟩⟩
def QfH:Qh prog 50:=⟨⟨_,func50,by kernel_rfl,rfl⟩⟩
def Qv0:Qh prog 51:=⟨⟨_,func51,by kernel_rfl,rfl⟩⟩
def call52:Qh prog 52:=⟨⟨_,func52,by kernel_rfl,rfl⟩⟩
def call53:Qh prog 53:=⟨⟨_,func53,by kernel_rfl,rfl⟩⟩
def Qq4:Qh prog 54:=⟨⟨_,func54,by kernel_rfl,rfl⟩⟩
def Qv1:Qh prog 55:=⟨⟨_,func55,by kernel_rfl,rfl⟩⟩
def call63:Qh prog 63:=⟨⟨_,func63,by kernel_rfl,rfl⟩⟩
def call67:Qh prog 67:=⟨⟨_,func67,by kernel_rfl,rfl⟩⟩
def call70:Qh prog 70:=⟨⟨_,func70,by kernel_rfl,rfl⟩⟩
def call77:Qh prog 77:=⟨⟨_,func77,by kernel_rfl,rfl⟩⟩
def QlE:Qh prog 78:=⟨⟨_,func78,by kernel_rfl,rfl⟩⟩
def call79:Qh prog 79:=⟨⟨_,func79,by kernel_rfl,rfl⟩⟩
def call80:Qh prog 80:=⟨⟨_,func80,by kernel_rfl,rfl⟩⟩
def Qv2:Qh prog 81:=⟨⟨_,func81,by kernel_rfl,rfl⟩⟩
def Qv3:Qh prog 82:=⟨⟨_,func82,by kernel_rfl,rfl⟩⟩
def Qv4:Qh prog 83:=⟨⟨_,func83,by kernel_rfl,rfl⟩⟩
def Qv5:Qh prog 84:=⟨⟨_,func84,by kernel_rfl,rfl⟩⟩
def call85:Qh prog 85:=⟨⟨_,func85,by kernel_rfl,rfl⟩⟩
def call86:Qh prog 86:=⟨⟨_,func86,by kernel_rfl,rfl⟩⟩
def Qv6:Qh prog 87:=⟨⟨_,func87,by kernel_rfl,rfl⟩⟩
def Qv7:Qh prog 89:=⟨⟨_,func89,by kernel_rfl,rfl⟩⟩
def call90:Qh prog 90:=⟨⟨_,func90,by kernel_rfl,rfl⟩⟩
def Qq5:Qh prog 91:=⟨⟨_,func91,by kernel_rfl,rfl⟩⟩
def Qv8:Qh prog 92:=⟨⟨_,func92,by kernel_rfl,rfl⟩⟩
def Qq6:Qh prog 93:=⟨⟨_,func93,by kernel_rfl,rfl⟩⟩
def call95:Qh prog 95:=⟨⟨_,func95,by kernel_rfl,rfl⟩⟩
def call98:Qh prog 98:=⟨⟨_,func98,by kernel_rfl,rfl⟩⟩
def call99:Qh prog 99:=⟨⟨_,func99,by kernel_rfl,rfl⟩⟩
def QAp:Qh prog 100:=⟨⟨_,func100,by kernel_rfl,rfl⟩⟩
def QAq:Qh prog 101:=⟨⟨_,func101,by kernel_rfl,rfl⟩⟩
def Qs0:Qh prog 102:=⟨⟨_,func102,by kernel_rfl,rfl⟩⟩
def QAr:Qh prog 103:=⟨⟨_,func103,by kernel_rfl,rfl⟩⟩
def Qs1:Qh prog 104:=⟨⟨_,func104,by kernel_rfl,rfl⟩⟩
def QAs:Qh prog 105:=⟨⟨_,func105,by kernel_rfl,rfl⟩⟩
def QAt:Qh prog 106:=⟨⟨_,func106,by kernel_rfl,rfl⟩⟩
def QoK:Qh prog 107:=⟨⟨_,func107,by kernel_rfl,rfl⟩⟩
def QAu:Qh prog 108:=⟨⟨_,func108,by kernel_rfl,rfl⟩⟩
def QAv:Qh prog 109:=⟨⟨_,func109,by kernel_rfl,rfl⟩⟩
def QoL:Qh prog 110:=⟨⟨_,func110,by kernel_rfl,rfl⟩⟩
def QoM:Qh prog 111:=⟨⟨_,func111,by kernel_rfl,rfl⟩⟩
def QoN:Qh prog 112:=⟨⟨_,func112,by kernel_rfl,rfl⟩⟩
def QAw:Qh prog 113:=⟨⟨_,func113,by kernel_rfl,rfl⟩⟩
def QAx:Qh prog 114:=⟨⟨_,func114,by kernel_rfl,rfl⟩⟩
def QAy:Qh prog 119:=⟨⟨_,func119,by kernel_rfl,rfl⟩⟩
def QAz:Qh prog 120:=⟨⟨_,func120,by kernel_rfl,rfl⟩⟩
def QAA:Qh prog 121:=⟨⟨_,func121,by kernel_rfl,rfl⟩⟩
def QAB:Qh prog 122:=⟨⟨_,func122,by kernel_rfl,rfl⟩⟩
def QAC:Qh prog 123:=⟨⟨_,func123,by kernel_rfl,rfl⟩⟩
def QAD:Qh prog 124:=⟨⟨_,func124,by kernel_rfl,rfl⟩⟩
def QAE:Qh prog 125:=⟨⟨_,func125,by kernel_rfl,rfl⟩⟩
def QAF:Qh prog 126:=⟨⟨_,func126,by kernel_rfl,rfl⟩⟩
def QAG:Qh prog 127:=⟨⟨_,func127,by kernel_rfl,rfl⟩⟩
def QAH:Qh prog 128:=⟨⟨_,func128,by kernel_rfl,rfl⟩⟩
def QAI:Qh prog 129:=⟨⟨_,func129,by kernel_rfl,rfl⟩⟩
def QAJ:Qh prog 130:=⟨⟨_,func130,by kernel_rfl,rfl⟩⟩
def QAK:Qh prog 131:=⟨⟨_,func131,by kernel_rfl,rfl⟩⟩
def QoO:Qh prog 132:=⟨⟨_,func132,by kernel_rfl,rfl⟩⟩
def Qs2:Qh prog 133:=⟨⟨_,func133,by kernel_rfl,rfl⟩⟩
def QAL:Qh prog 134:=⟨⟨_,func134,by kernel_rfl,rfl⟩⟩
def QAM:Qh prog 146:=⟨⟨_,func146,by kernel_rfl,rfl⟩⟩
def QAN:Qh prog 147:=⟨⟨_,func147,by kernel_rfl,rfl⟩⟩
def QAO:Qh prog 148:=⟨⟨_,func148,by kernel_rfl,rfl⟩⟩
def QAP:Qh prog 149:=⟨⟨_,func149,by kernel_rfl,rfl⟩⟩
def QAQ:Qh prog 150:=⟨⟨_,func150,by kernel_rfl,rfl⟩⟩
def QAR:Qh prog 151:=⟨⟨_,func151,by kernel_rfl,rfl⟩⟩
def QAS:Qh prog 152:=⟨⟨_,func152,by kernel_rfl,rfl⟩⟩
def QAT:Qh prog 153:=⟨⟨_,func153,by kernel_rfl,rfl⟩⟩
def QAU:Qh prog 154:=⟨⟨_,func154,by kernel_rfl,rfl⟩⟩
def QAV:Qh prog 155:=⟨⟨_,func155,by kernel_rfl,rfl⟩⟩
def QAW:Qh prog 156:=⟨⟨_,func156,by kernel_rfl,rfl⟩⟩
def QAX:Qh prog 157:=⟨⟨_,func157,by kernel_rfl,rfl⟩⟩
def QAY:Qh prog 161:=⟨⟨_,func161,by kernel_rfl,rfl⟩⟩
def QAZ:Qh prog 162:=⟨⟨_,func162,by kernel_rfl,rfl⟩⟩
def QA0:Qh prog 163:=⟨⟨_,func163,by kernel_rfl,rfl⟩⟩
def QA1:Qh prog 164:=⟨⟨_,func164,by kernel_rfl,rfl⟩⟩
def QA2:Qh prog 165:=⟨⟨_,func165,by kernel_rfl,rfl⟩⟩
def QA3:Qh prog 166:=⟨⟨_,func166,by kernel_rfl,rfl⟩⟩
def QA4:Qh prog 167:=⟨⟨_,func167,by kernel_rfl,rfl⟩⟩
def QA5:Qh prog 168:=⟨⟨_,func168,by kernel_rfl,rfl⟩⟩
def QA6:Qh prog 169:=⟨⟨_,func169,by kernel_rfl,rfl⟩⟩
def QA7:Qh prog 170:=⟨⟨_,func170,by kernel_rfl,rfl⟩⟩
def QA8:Qh prog 171:=⟨⟨_,func171,by kernel_rfl,rfl⟩⟩
def QhV:Qh prog 173:=⟨⟨_,func173,by kernel_rfl,rfl⟩⟩
def Qs3:Qh prog 174:=⟨⟨_,func174,by kernel_rfl,rfl⟩⟩
def QoP:Qh prog 175:=⟨⟨_,func175,by kernel_rfl,rfl⟩⟩
def Qs4:Qh prog 177:=⟨⟨_,func177,by kernel_rfl,rfl⟩⟩
def QoQ:Qh prog 178:=⟨⟨_,func178,by kernel_rfl,rfl⟩⟩
def QA9:Qh prog 185:=⟨⟨_,func185,by kernel_rfl,rfl⟩⟩
def QBa:Qh prog 186:=⟨⟨_,func186,by kernel_rfl,rfl⟩⟩
def QBb:Qh prog 187:=⟨⟨_,func187,by kernel_rfl,rfl⟩⟩
def QBc:Qh prog 188:=⟨⟨_,func188,by kernel_rfl,rfl⟩⟩
def QBd:Qh prog 189:=⟨⟨_,func189,by kernel_rfl,rfl⟩⟩
def QBe:Qh prog 190:=⟨⟨_,func190,by kernel_rfl,rfl⟩⟩
def QBf:Qh prog 191:=⟨⟨_,func191,by kernel_rfl,rfl⟩⟩
def QBg:Qh prog 192:=⟨⟨_,func192,by kernel_rfl,rfl⟩⟩
def QBh:Qh prog 194:=⟨⟨_,func194,by kernel_rfl,rfl⟩⟩
def Qs5:Qh prog 195:=⟨⟨_,func195,by kernel_rfl,rfl⟩⟩
def Qs6:Qh prog 196:=⟨⟨_,func196,by kernel_rfl,rfl⟩⟩
def QBi:Qh prog 197:=⟨⟨_,func197,by kernel_rfl,rfl⟩⟩
def QBj:Qh prog 198:=⟨⟨_,func198,by kernel_rfl,rfl⟩⟩
def QBk:Qh prog 199:=⟨⟨_,func199,by kernel_rfl,rfl⟩⟩
def QBl:Qh prog 200:=⟨⟨_,func200,by kernel_rfl,rfl⟩⟩
def QBm:Qh prog 201:=⟨⟨_,func201,by kernel_rfl,rfl⟩⟩
def QBn:Qh prog 202:=⟨⟨_,func202,by kernel_rfl,rfl⟩⟩
def QBo:Qh prog 203:=⟨⟨_,func203,by kernel_rfl,rfl⟩⟩
def QBp:Qh prog 204:=⟨⟨_,func204,by kernel_rfl,rfl⟩⟩
def QBq:Qh prog 205:=⟨⟨_,func205,by kernel_rfl,rfl⟩⟩
def QBr:Qh prog 209:=⟨⟨_,func209,by kernel_rfl,rfl⟩⟩
def QBs:Qh prog 211:=⟨⟨_,func211,by kernel_rfl,rfl⟩⟩
def QBt:Qh prog 213:=⟨⟨_,func213,by kernel_rfl,rfl⟩⟩
def QBu:Qh prog 214:=⟨⟨_,func214,by kernel_rfl,rfl⟩⟩
def QBv:Qh prog 215:=⟨⟨_,func215,by kernel_rfl,rfl⟩⟩
def QBw:Qh prog 216:=⟨⟨_,func216,by kernel_rfl,rfl⟩⟩
def QBx:Qh prog 217:=⟨⟨_,func217,by kernel_rfl,rfl⟩⟩
def QBy:Qh prog 218:=⟨⟨_,func218,by kernel_rfl,rfl⟩⟩
def QBz:Qh prog 219:=⟨⟨_,func219,by kernel_rfl,rfl⟩⟩
def QBA:Qh prog 220:=⟨⟨_,func220,by kernel_rfl,rfl⟩⟩
def QBB:Qh prog 221:=⟨⟨_,func221,by kernel_rfl,rfl⟩⟩
def QBC:Qh prog 222:=⟨⟨_,func222,by kernel_rfl,rfl⟩⟩
def QBD:Qh prog 223:=⟨⟨_,func223,by kernel_rfl,rfl⟩⟩
def QBE:Qh prog 226:=⟨⟨_,func226,by kernel_rfl,rfl⟩⟩
def QBF:Qh prog 227:=⟨⟨_,func227,by kernel_rfl,rfl⟩⟩
def QBG:Qh prog 228:=⟨⟨_,func228,by kernel_rfl,rfl⟩⟩
def QBH:Qh prog 229:=⟨⟨_,func229,by kernel_rfl,rfl⟩⟩
def QoR:Qh prog 230:=⟨⟨_,func230,by kernel_rfl,rfl⟩⟩
def QBI:Qh prog 231:=⟨⟨_,func231,by kernel_rfl,rfl⟩⟩
def QBJ:Qh prog 260:=⟨⟨_,func260,by kernel_rfl,rfl⟩⟩
def Qs7:Qh prog 263:=⟨⟨_,func263,by kernel_rfl,rfl⟩⟩
def Qs8:Qh prog 264:=⟨⟨_,func264,by kernel_rfl,rfl⟩⟩
def Qs9:Qh prog 265:=⟨⟨_,func265,by kernel_rfl,rfl⟩⟩
def Qta:Qh prog 266:=⟨⟨_,func266,by kernel_rfl,rfl⟩⟩
def QBK:Qh prog 267:=⟨⟨_,func267,by kernel_rfl,rfl⟩⟩
def Qtb:Qh prog 268:=⟨⟨_,func268,by kernel_rfl,rfl⟩⟩
def QBL:Qh prog 269:=⟨⟨_,func269,by kernel_rfl,rfl⟩⟩
def Qtc:Qh prog 270:=⟨⟨_,func270,by kernel_rfl,rfl⟩⟩
def QBM:Qh prog 271:=⟨⟨_,func271,by kernel_rfl,rfl⟩⟩
def Qtd:Qh prog 272:=⟨⟨_,func272,by kernel_rfl,rfl⟩⟩
def Qte:TOk prog 81 rVal 8 .nilFunc:=⟨⟨_,underlying81,rfl⟩,by kernel_rfl,rfl⟩
def tokP73:TOk prog 73 rVal 8 (.pointer none):=⟨⟨_,underlying73,rfl⟩,by kernel_rfl,rfl⟩
section
variable {M:Fr} {w0:World} {n:Nat} {Γ:List (Nat×Ty)} {As:List Atom} {a:Act} {w:World}
def _root_.Go.Sim.St.t1_0 {x0:Nat×Ty} (h:St M w0 n Γ As a w) (is:List Nat) (p:Qde Γ is=[x0]:=by exact rfl) (q:As=[]:=by exact rfl):St M w0 n [x0] [] a w:=h.to is _ _ p q
def _root_.Go.Sim.St.t2_0 {x0 x1:Nat×Ty} (h:St M w0 n Γ As a w) (is:List Nat) (p:Qde Γ is=[x0,x1]:=by exact rfl) (q:As=[]:=by exact rfl):St M w0 n [x0,x1] [] a w:=h.to is _ _ p q
def _root_.Go.Sim.St.t2_1 {x0 x1:Nat×Ty} {y0:Atom} (h:St M w0 n Γ As a w) (is:List Nat) (p:Qde Γ is=[x0,x1]:=by exact rfl) (q:As=[y0]:=by exact rfl):St M w0 n [x0,x1] [y0] a w:=h.to is _ _ p q
def _root_.Go.Sim.St.t3_0 {x0 x1 x2:Nat×Ty} (h:St M w0 n Γ As a w) (is:List Nat) (p:Qde Γ is=[x0,x1,x2]:=by exact rfl) (q:As=[]:=by exact rfl):St M w0 n [x0,x1,x2] [] a w:=h.to is _ _ p q
def _root_.Go.Sim.St.t4_0 {x0 x1 x2 x3:Nat×Ty} (h:St M w0 n Γ As a w) (is:List Nat) (p:Qde Γ is=[x0,x1,x2,x3]:=by exact rfl) (q:As=[]:=by exact rfl):St M w0 n [x0,x1,x2,x3] [] a w:=h.to is _ _ p q
def _root_.Go.Sim.St.t4_1 {x0 x1 x2 x3:Nat×Ty} {y0:Atom} (h:St M w0 n Γ As a w) (is:List Nat) (p:Qde Γ is=[x0,x1,x2,x3]:=by exact rfl) (q:As=[y0]:=by exact rfl):St M w0 n [x0,x1,x2,x3] [y0] a w:=h.to is _ _ p q
def _root_.Go.Sim.St.t11_9 {x0 x1 x2 x3 x4 x5 x6 x7 x8 x9 x10:Nat×Ty} {y0 y1 y2 y3 y4 y5 y6 y7 y8:Atom} (h:St M w0 n Γ As a w) (is:List Nat) (p:Qde Γ is=[x0,x1,x2,x3,x4,x5,x6,x7,x8,x9,x10]:=by exact rfl) (q:As=[y0,y1,y2,y3,y4,y5,y6,y7,y8]:=by exact rfl):St M w0 n [x0,x1,x2,x3,x4,x5,x6,x7,x8,x9,x10] [y0,y1,y2,y3,y4,y5,y6,y7,y8] a w:=h.to is _ _ p q
end
abbrev zz0:Qc:=(Qc.mk ([]:Str) ([]:Str) ([]:Str) (0:Int) (0:Int) (0:Int) ([]:(List Str)) ([]:(List Int)))
abbrev zz1:Qg:=(Qg.mk ([]:Str) (0:Int) (0:Int) ([]:(List Qc)))
abbrev zz2:QA:=(QA.mk ([]:Str) ([]:(List Str)) ([]:(List QO)))
abbrev zz3:Qs:=(Qs.mk ([]:Str) ([]:Str) ([]:Str) ([]:Str) (0:Int))
abbrev zz4:Qb:=(Qb.mk (0:Int) ([]:(List Qg)) ([]:(List QA)) ([]:(List Qs)))
abbrev zz5:Qaa:=(Qaa.mk (0:Int) (0:Int) (0:Int))
abbrev Qqo:=underlying112
abbrev Qqp:=underlying176
abbrev QnV:=underlying178
abbrev ud22:=underlying22
abbrev QnW:=underlying240
abbrev Qqq:=underlying249
abbrev ud25:=underlying25
abbrev ud29:=underlying29
abbrev ud3:=underlying3
abbrev ud45:=underlying45
abbrev ud49:=underlying49
abbrev ud5:=underlying5
abbrev ud60:=underlying60
abbrev ud68:=underlying68
abbrev ud75:=underlying75
abbrev ud76:=underlying76
abbrev ud9:=underlying9

/- Closed facts on the types and functions of the translation. No condition. -/
import Derived.Test.YtjioihpegfgbpaaGreatDoorSimOn
import Derived.Test.YtjioihpegfgbpaaGreatDoorRows
set_option linter.all false
open Go.Proofs.Tryz
namespace Go.Proofs.YtjioihpegfgbpaaGreatDoor
open Go.Sim
def mixed:prog.follows .mixedOrders=true:=by kernel_rfl
def mx:prog.follows .mixedOrders=true:=mixed
def Qh2:List (Value×Value):=[(.int .i64 0,.agg #[.bool true,.bool false,.bool false,.nilFunc,.func (.func 222) #[] #[],.func (.func 223) #[] #[],.func (.func 224) #[] #[]]),(.int .i64 1,.agg #[.bool true,.bool true,.bool false,.nilFunc,.func (.func 225) #[] #[],.func (.func 227) #[] #[],.nilFunc]),(.int .i64 2,.agg #[.bool true,.bool true,.bool false,.nilFunc,.func (.func 229) #[] #[],.nilFunc,.func (.func 230) #[] #[]]),(.int .i64 3,.agg #[.bool true,.bool true,.bool false,.func (.func 231) #[] #[],.func (.func 232) #[] #[],.func (.func 233) #[] #[],.func (.func 234) #[] #[]]),(.int .i64 4,.agg #[.bool true,.bool true,.bool false,.func (.func 235) #[] #[],.func (.func 236) #[] #[],.nilFunc,.func (.func 237) #[] #[]]),(.int .i64 5,.agg #[.bool false,.bool false,.bool true,.nilFunc,.func (.func 238) #[] #[],.nilFunc,.func (.func 240) #[] #[]]),(.int .i64 6,.agg #[.bool true,.bool false,.bool false,.func (.func 242) #[] #[],.func (.func 243) #[] #[],.nilFunc,.func (.func 230) #[] #[]])]
def Qq3:Ty:=QkA Qh2
def Qs2:List Ty:=[Qq3]
def Qs3:TOk prog 119 (Qnd Qh2) 8 (.map none):=⟨⟨_,underlying119,rfl⟩,(by kernel_rfl:(prog.info? 119).map (λi=>(i.zero,i.size,i.bytes))=some (some (.map none),1,8)),rfl⟩
def Qi8:List (Value×Value):=[(.int .i64 0,.agg #[.func (.func 248) #[] #[]]),(.int .i64 1,.agg #[.func (.func 249) #[] #[]]),(.int .i64 4,.agg #[.func (.func 250) #[] #[]]),(.int .i64 5,.agg #[.func (.func 251) #[] #[]]),(.int .i64 6,.agg #[.func (.func 253) #[] #[]]),(.int .i64 7,.agg #[.func (.func 254) #[] #[]]),(.int .i64 8,.agg #[.func (.func 256) #[] #[]])]
def Quk:Ty:=QkA Qi8
def Qs4:List Ty:=[Quk]
def tokM1:TOk prog 169 (Qnd Qi8) 8 (.map none):=⟨⟨_,underlying169,rfl⟩,(by kernel_rfl:(prog.info? 169).map (λi=>(i.zero,i.size,i.bytes))=some (some (.map none),1,8)),rfl⟩
def Qlk:List Str:=[[107,101,121],[114,101,102],[110,117,109],[112,105,99,107],[100,97,121],[115,116,101,112],[115,117,109],[115,104,97,114,101],[99,111,112,121]]
def Qs5:List Ty:=Qlk.flatMap rS.cs
def Qq4:List Int:=[1,10,100,1000,10000,100000,1000000,10000000,100000000,1000000000,10000000000,100000000000,1000000000000,10000000000000,100000000000000,1000000000000000,10000000000000000,100000000000000000,1000000000000000000,10000000000000000000]
def Qs6:List Ty:=Qq4.flatMap (rInt .u64).cs
def Qs7:List Int:=[0,1,28,2,29,14,24,3,30,22,20,15,25,17,4,8,31,27,13,23,21,19,16,7,26,12,18,6,11,5,10,9]
def tglo4:List Ty:=Qs7.flatMap (rInt .u8).cs
def Qs8:List Int:=[0,1,56,2,57,49,28,3,61,58,42,50,38,29,17,4,62,47,59,36,45,43,51,22,53,39,33,30,24,18,12,5,63,55,48,27,60,41,37,16,46,35,44,21,52,32,23,11,54,26,40,15,34,20,31,10,25,14,19,9,13,8,7,6]
def tglo5:List Ty:=Qs8.flatMap (rInt .u8).cs
abbrev bld:=bldE 234 5
def glo:Atom:=gloA [(0,Qs2),(1,Qs4),(2,Qs5),(3,Qs6),(4,tglo4),(5,tglo5)]
def Qq5:∀k,¬glo.fp k:=λ_ h=>h
def _root_.Go.Sim.OpJ.glo {P:Program} {o:Oper} {Γ:List (Nat×Ty)} {U E:List Atom} {N:Value->List Atom} {T:Value->Ty} (h:OpJ P o Γ U (glo::E) N T):OpJ P o Γ (glo::U) E N T:=OpJ.gloG Qq5 h
def Qxi:QlI glo 0 Qs2:=Qnc (by simp)
def QnR:Qlg glo 0 Qs2:=Qxi.has
def Qxj:QlI glo 1 Qs4:=Qnc (by simp)
def Qv1:Qlg glo 1 Qs4:=Qxj.has
def Qxk:QlI glo 2 Qs5:=Qnc (by simp)
def Qv2:Qlg glo 2 Qs5:=Qxk.has
def Qxl:QlI glo 3 Qs6:=Qnc (by simp)
def tok3:TOk prog 3 rI 8 (.int .i64 0):=⟨⟨_,underlying3,rfl⟩,by kernel_rfl,rfl⟩
def zok3:∀F w,(rI.ty (0:Int)).ok F w (.int .i64 0):=λ_ _=>rfl
def tok4:TOk prog 4 QgL 1 (.bool false):=⟨⟨_,underlying4,rfl⟩,by kernel_rfl,rfl⟩
def zok4:∀F w,(QgL.ty false).ok F w (.bool false):=λ_ _=>rfl
def tok5:TOk prog 5 (rInt .u8) 1 (.int .u8 0):=⟨⟨_,underlying5,rfl⟩,by kernel_rfl,rfl⟩
def tok9:TOk prog 9 rS 16 (.string .empty):=⟨⟨_,underlying9,rfl⟩,by kernel_rfl,rfl⟩
def Qqt:TOk prog 20 (rAny 3 9) 16 .nilIface:=⟨⟨_,underlying20,rfl⟩,by kernel_rfl,rfl⟩
def QbW:TOk prog 22 (rSl rI) 24 (.slice none 0 0):=⟨⟨_,underlying22,rfl⟩,by kernel_rfl,rfl⟩
def Qhs:TOk prog 56 (rSl rS) 24 (.slice none 0 0):=⟨⟨_,underlying56,rfl⟩,by kernel_rfl,rfl⟩
structure Qd where
  Xi:Str
  Of:Str
  Up:Str
  Xh:Int
  Lo:Int
  Hi:Int
  Words:(List Str)
  Xf:(List Int)
deriving Inhabited
@[reducible] def Qe : Rep Qd := ⟨λx => ([tv (.string (sB x.Xi)),tv (.string (sB x.Of)),tv (.string (sB x.Up)),ti x.Xh,ti x.Lo,ti x.Hi,tsl rS x.Words,tsl rI x.Xf]),8,true,λ_ => rfl,λ_ => (Qk (QO rfl) (Qk (QO rfl) (Qk (QO rfl) (Qk (QO rfl) (Qk (QO rfl) (Qk (QO rfl) (Qk QaH (Qk QaH Q5)))))))),λh => (by cases h)⟩
theorem Q4:TOk prog 70 Qe 120 (.agg #[(.string .empty),(.string .empty),(.string .empty),(.int .i64 0),(.int .i64 0),(.int .i64 0),(.slice none 0 0),(.slice none 0 0)]):=⟨⟨_,underlying70,rfl⟩,by kernel_rfl,rfl⟩
def zc70:∀F w,QW (Qe.cs (Qd.mk ([]:Str) ([]:Str) ([]:Str) (0:Int) (0:Int) (0:Int) ([]:(List Str)) ([]:(List Int)))) F w ((.agg #[(.string .empty),(.string .empty),(.string .empty),(.int .i64 0),(.int .i64 0),(.int .i64 0),(.slice none 0 0),(.slice none 0 0)]):Value).cells.toList:=λ_ _=>(.cons rfl (.cons rfl (.cons rfl (.cons rfl (.cons rfl (.cons rfl (.cons ⟨none,0,rfl,Nat.le_refl _,λh=>(h rfl).elim⟩ (.cons ⟨none,0,rfl,Nat.le_refl _,λh=>(h rfl).elim⟩ .nil))))))))
def QgM:∀F w,(Qe.ty (Qd.mk ([]:Str) ([]:Str) ([]:Str) (0:Int) (0:Int) (0:Int) ([]:(List Str)) ([]:(List Int)))).ok F w (.agg #[(.string .empty),(.string .empty),(.string .empty),(.int .i64 0),(.int .i64 0),(.int .i64 0),(.slice none 0 0),(.slice none 0 0)]):=λF w=>⟨_,rfl,zc70 F w⟩
def zv70:(prog.info? 70).bind (·.zero)=some (.agg #[(.string .empty),(.string .empty),(.string .empty),(.int .i64 0),(.int .i64 0),(.int .i64 0),(.slice none 0 0),(.slice none 0 0)]):=by kernel_rfl
def pl70 : ∀ w, ((#[⟨"Name", 9, 0, false, "", "", 0⟩, ⟨"Of", 9, 1, false, "", "", 16⟩, ⟨"Up", 9, 2, false, "", "", 32⟩, ⟨"Kind", 3, 3, false, "", "", 48⟩, ⟨"Lo", 3, 4, false, "", "", 56⟩, ⟨"Hi", 3, 5, false, "", "", 64⟩, ⟨"Words", 56, 6, false, "", "", 72⟩, ⟨"Weights", 22, 7, false, "", "", 96⟩] : Array Field).mapM (fun f => do pure (f.offset, ← sizeOf f.type) : Field → Sem (Nat × Nat))).run Tryz.prog w = .ok #[(0, 1), (1, 1), (2, 1), (3, 1), (4, 1), (5, 1), (6, 1), (7, 1)] w := fun _ => by kernel_rfl
def Qv3:(∀F w,QW ([tv (.string (sB ([]:Str))),tv (.string (sB ([]:Str))),tv (.string (sB ([]:Str))),ti (0:Int),ti (0:Int),ti (0:Int),tsl rS ([]:(List Str)),tvs nilV]) F w ((.agg #[(.string .empty),(.string .empty),(.string .empty),(.int .i64 0),(.int .i64 0),(.int .i64 0),(.slice none 0 0),(.slice none 0 0)]):Value).cells.toList)/\([tv (.string (sB ([]:Str))),tv (.string (sB ([]:Str))),tv (.string (sB ([]:Str))),ti (0:Int),ti (0:Int),ti (0:Int),tsl rS ([]:(List Str)),tvs nilV]).length=8/\Qe.agg=true/\∃cs,((.agg #[(.string .empty),(.string .empty),(.string .empty),(.int .i64 0),(.int .i64 0),(.int .i64 0),(.slice none 0 0),(.slice none 0 0)]):Value)=.agg cs:=⟨λ_ _=>(.cons rfl (.cons rfl (.cons rfl (.cons rfl (.cons rfl (.cons rfl (.cons ⟨none,0,rfl,Nat.le_refl _,λh=>(h rfl).elim⟩ (.cons ⟨rfl,rfl⟩ .nil)))))))),rfl,rfl,_,rfl⟩
def QbG:TOk prog 52 (rSl Qe) 24 (.slice none 0 0):=⟨⟨_,underlying52,rfl⟩,by kernel_rfl,rfl⟩
structure Qh where
  Xi:Str
  Lo:Int
  Hi:Int
  Xb:(List Qd)
deriving Inhabited
@[reducible] def Qp : Rep Qh := ⟨λx => ([tv (.string (sB x.Xi)),ti x.Lo,ti x.Hi,tsl Qe x.Xb]),4,true,λ_ => rfl,λ_ => (Qk (QO rfl) (Qk (QO rfl) (Qk (QO rfl) (Qk QaH Q5)))),λh => (by cases h)⟩
theorem Q6:TOk prog 54 Qp 56 (.agg #[(.string .empty),(.int .i64 0),(.int .i64 0),(.slice none 0 0)]):=⟨⟨_,underlying54,rfl⟩,by kernel_rfl,rfl⟩
def zc54:∀F w,QW (Qp.cs (Qh.mk ([]:Str) (0:Int) (0:Int) ([]:(List Qd)))) F w ((.agg #[(.string .empty),(.int .i64 0),(.int .i64 0),(.slice none 0 0)]):Value).cells.toList:=λ_ _=>(.cons rfl (.cons rfl (.cons rfl (.cons ⟨none,0,rfl,Nat.le_refl _,λh=>(h rfl).elim⟩ .nil))))
def QkF:∀F w,(Qp.ty (Qh.mk ([]:Str) (0:Int) (0:Int) ([]:(List Qd)))).ok F w (.agg #[(.string .empty),(.int .i64 0),(.int .i64 0),(.slice none 0 0)]):=λF w=>⟨_,rfl,zc54 F w⟩
def zv54:(prog.info? 54).bind (·.zero)=some (.agg #[(.string .empty),(.int .i64 0),(.int .i64 0),(.slice none 0 0)]):=by kernel_rfl
def pl54 : ∀ w, ((#[⟨"Name", 9, 0, false, "", "", 0⟩, ⟨"Lo", 3, 1, false, "", "", 16⟩, ⟨"Hi", 3, 2, false, "", "", 24⟩, ⟨"Fields", 52, 3, false, "", "", 32⟩] : Array Field).mapM (fun f => do pure (f.offset, ← sizeOf f.type) : Field → Sem (Nat × Nat))).run Tryz.prog w = .ok #[(0, 1), (1, 1), (2, 1), (3, 1)] w := fun _ => by kernel_rfl
def Qv4:(∀F w,QW ([tv (.string (sB ([]:Str))),ti (0:Int),ti (0:Int),tvs nilV]) F w ((.agg #[(.string .empty),(.int .i64 0),(.int .i64 0),(.slice none 0 0)]):Value).cells.toList)/\([tv (.string (sB ([]:Str))),ti (0:Int),ti (0:Int),tvs nilV]).length=4/\Qp.agg=true/\∃cs,((.agg #[(.string .empty),(.int .i64 0),(.int .i64 0),(.slice none 0 0)]):Value)=.agg cs:=⟨λ_ _=>(.cons rfl (.cons rfl (.cons rfl (.cons ⟨rfl,rfl⟩ .nil)))),rfl,rfl,_,rfl⟩
def Qa0:TOk prog 23 (rSl Qp) 24 (.slice none 0 0):=⟨⟨_,underlying23,rfl⟩,by kernel_rfl,rfl⟩
structure Qac where
  a0:Int
  a1:Int
deriving Inhabited
@[reducible] def Qaz : Rep Qac := ⟨λx => ([ti x.a0,ti x.a1]),2,true,λ_ => rfl,λ_ => (Qk (QO rfl) (Qk (QO rfl) Q5)),λh => (by cases h)⟩
theorem QkG:TOk prog 60 Qaz 16 (.agg #[(.int .i64 0),(.int .i64 0)]):=⟨⟨_,underlying60,rfl⟩,by kernel_rfl,rfl⟩
def zc60:∀F w,QW (Qaz.cs (Qac.mk (0:Int) (0:Int))) F w ((.agg #[(.int .i64 0),(.int .i64 0)]):Value).cells.toList:=λ_ _=>(.cons rfl (.cons rfl .nil))
def zok60:∀F w,(Qaz.ty (Qac.mk (0:Int) (0:Int))).ok F w (.agg #[(.int .i64 0),(.int .i64 0)]):=λF w=>⟨_,rfl,zc60 F w⟩
def zv60:(prog.info? 60).bind (·.zero)=some (.agg #[(.int .i64 0),(.int .i64 0)]):=by kernel_rfl
def QlN:TOk prog 57 (rSl Qaz) 24 (.slice none 0 0):=⟨⟨_,underlying57,rfl⟩,by kernel_rfl,rfl⟩
structure Qr where
  Xi:Str
  Xe:(List Str)
  Xg:(List Qac)
deriving Inhabited
@[reducible] def Qo : Rep Qr := ⟨λx => ([tv (.string (sB x.Xi)),tsl rS x.Xe,tsl Qaz x.Xg]),3,true,λ_ => rfl,λ_ => (Qk (QO rfl) (Qk QaH (Qk QaH Q5))),λh => (by cases h)⟩
theorem Qe7:TOk prog 59 Qo 64 (.agg #[(.string .empty),(.slice none 0 0),(.slice none 0 0)]):=⟨⟨_,underlying59,rfl⟩,by kernel_rfl,rfl⟩
def zc59:∀F w,QW (Qo.cs (Qr.mk ([]:Str) ([]:(List Str)) ([]:(List Qac)))) F w ((.agg #[(.string .empty),(.slice none 0 0),(.slice none 0 0)]):Value).cells.toList:=λ_ _=>(.cons rfl (.cons ⟨none,0,rfl,Nat.le_refl _,λh=>(h rfl).elim⟩ (.cons ⟨none,0,rfl,Nat.le_refl _,λh=>(h rfl).elim⟩ .nil)))
def zok59:∀F w,(Qo.ty (Qr.mk ([]:Str) ([]:(List Str)) ([]:(List Qac)))).ok F w (.agg #[(.string .empty),(.slice none 0 0),(.slice none 0 0)]):=λF w=>⟨_,rfl,zc59 F w⟩
def zv59:(prog.info? 59).bind (·.zero)=some (.agg #[(.string .empty),(.slice none 0 0),(.slice none 0 0)]):=by kernel_rfl
def pl59 : ∀ w, ((#[⟨"Name", 9, 0, false, "", "", 0⟩, ⟨"States", 56, 1, false, "", "", 16⟩, ⟨"Moves", 57, 2, false, "", "", 40⟩] : Array Field).mapM (fun f => do pure (f.offset, ← sizeOf f.type) : Field → Sem (Nat × Nat))).run Tryz.prog w = .ok #[(0, 1), (1, 1), (2, 1)] w := fun _ => by kernel_rfl
def Qv5:(∀F w,QW ([tv (.string (sB ([]:Str))),tsl rS ([]:(List Str)),tvs nilV]) F w ((.agg #[(.string .empty),(.slice none 0 0),(.slice none 0 0)]):Value).cells.toList)/\([tv (.string (sB ([]:Str))),tsl rS ([]:(List Str)),tvs nilV]).length=3/\Qo.agg=true/\∃cs,((.agg #[(.string .empty),(.slice none 0 0),(.slice none 0 0)]):Value)=.agg cs:=⟨λ_ _=>(.cons rfl (.cons ⟨none,0,rfl,Nat.le_refl _,λh=>(h rfl).elim⟩ (.cons ⟨rfl,rfl⟩ .nil))),rfl,rfl,_,rfl⟩
def Qiw:TOk prog 24 (rSl Qo) 24 (.slice none 0 0):=⟨⟨_,underlying24,rfl⟩,by kernel_rfl,rfl⟩
structure Qm where
  Xi:Str
  Xh:Str
  A:Str
  B:Str
  N:Int
deriving Inhabited
@[reducible] def Ql : Rep Qm := ⟨λx => ([tv (.string (sB x.Xi)),tv (.string (sB x.Xh)),tv (.string (sB x.A)),tv (.string (sB x.B)),ti x.N]),5,true,λ_ => rfl,λ_ => (Qk (QO rfl) (Qk (QO rfl) (Qk (QO rfl) (Qk (QO rfl) (Qk (QO rfl) Q5))))),λh => (by cases h)⟩
theorem Qbp:TOk prog 62 Ql 72 (.agg #[(.string .empty),(.string .empty),(.string .empty),(.string .empty),(.int .i64 0)]):=⟨⟨_,underlying62,rfl⟩,by kernel_rfl,rfl⟩
def zc62:∀F w,QW (Ql.cs (Qm.mk ([]:Str) ([]:Str) ([]:Str) ([]:Str) (0:Int))) F w ((.agg #[(.string .empty),(.string .empty),(.string .empty),(.string .empty),(.int .i64 0)]):Value).cells.toList:=λ_ _=>(.cons rfl (.cons rfl (.cons rfl (.cons rfl (.cons rfl .nil)))))
def zok62:∀F w,(Ql.ty (Qm.mk ([]:Str) ([]:Str) ([]:Str) ([]:Str) (0:Int))).ok F w (.agg #[(.string .empty),(.string .empty),(.string .empty),(.string .empty),(.int .i64 0)]):=λF w=>⟨_,rfl,zc62 F w⟩
def zv62:(prog.info? 62).bind (·.zero)=some (.agg #[(.string .empty),(.string .empty),(.string .empty),(.string .empty),(.int .i64 0)]):=by kernel_rfl
def pl62 : ∀ w, ((#[⟨"Name", 9, 0, false, "", "", 0⟩, ⟨"Kind", 9, 1, false, "", "", 16⟩, ⟨"A", 9, 2, false, "", "", 32⟩, ⟨"B", 9, 3, false, "", "", 48⟩, ⟨"N", 3, 4, false, "", "", 64⟩] : Array Field).mapM (fun f => do pure (f.offset, ← sizeOf f.type) : Field → Sem (Nat × Nat))).run Tryz.prog w = .ok #[(0, 1), (1, 1), (2, 1), (3, 1), (4, 1)] w := fun _ => by kernel_rfl
def QcH:TOk prog 25 (rSl Ql) 24 (.slice none 0 0):=⟨⟨_,underlying25,rfl⟩,by kernel_rfl,rfl⟩
structure Qa where
  Version:Int
  Xa:(List Qh)
  Xd:(List Qr)
  Xc:(List Qm)
deriving Inhabited
@[reducible] def Qb : Rep Qa := ⟨λx => ([ti x.Version,tsl Qp x.Xa,tsl Qo x.Xd,tsl Ql x.Xc]),4,true,λ_ => rfl,λ_ => (Qk (QO rfl) (Qk QaH (Qk QaH (Qk QaH Q5)))),λh => (by cases h)⟩
theorem QH:TOk prog 27 Qb 80 (.agg #[(.int .i64 0),(.slice none 0 0),(.slice none 0 0),(.slice none 0 0)]):=⟨⟨_,underlying27,rfl⟩,by kernel_rfl,rfl⟩
def zc27:∀F w,QW (Qb.cs (Qa.mk (0:Int) ([]:(List Qh)) ([]:(List Qr)) ([]:(List Qm)))) F w ((.agg #[(.int .i64 0),(.slice none 0 0),(.slice none 0 0),(.slice none 0 0)]):Value).cells.toList:=λ_ _=>(.cons rfl (.cons ⟨none,0,rfl,Nat.le_refl _,λh=>(h rfl).elim⟩ (.cons ⟨none,0,rfl,Nat.le_refl _,λh=>(h rfl).elim⟩ (.cons ⟨none,0,rfl,Nat.le_refl _,λh=>(h rfl).elim⟩ .nil))))
def QdK:∀F w,(Qb.ty (Qa.mk (0:Int) ([]:(List Qh)) ([]:(List Qr)) ([]:(List Qm)))).ok F w (.agg #[(.int .i64 0),(.slice none 0 0),(.slice none 0 0),(.slice none 0 0)]):=λF w=>⟨_,rfl,zc27 F w⟩
def zv27:(prog.info? 27).bind (·.zero)=some (.agg #[(.int .i64 0),(.slice none 0 0),(.slice none 0 0),(.slice none 0 0)]):=by kernel_rfl
def pl27 : ∀ w, ((#[⟨"Version", 3, 0, false, "", "", 0⟩, ⟨"Kinds", 23, 1, false, "", "", 8⟩, ⟨"Lives", 24, 2, false, "", "", 32⟩, ⟨"Rules", 25, 3, false, "", "", 56⟩] : Array Field).mapM (fun f => do pure (f.offset, ← sizeOf f.type) : Field → Sem (Nat × Nat))).run Tryz.prog w = .ok #[(0, 1), (1, 1), (2, 1), (3, 1)] w := fun _ => by kernel_rfl
def Qv6:(∀F w,QW ([ti (0:Int),tvs nilV,tsl Qo ([]:(List Qr)),tsl Ql ([]:(List Qm))]) F w ((.agg #[(.int .i64 0),(.slice none 0 0),(.slice none 0 0),(.slice none 0 0)]):Value).cells.toList)/\([ti (0:Int),tvs nilV,tsl Qo ([]:(List Qr)),tsl Ql ([]:(List Qm))]).length=4/\Qb.agg=true/\∃cs,((.agg #[(.int .i64 0),(.slice none 0 0),(.slice none 0 0),(.slice none 0 0)]):Value)=.agg cs:=⟨λ_ _=>(.cons rfl (.cons ⟨rfl,rfl⟩ (.cons ⟨none,0,rfl,Nat.le_refl _,λh=>(h rfl).elim⟩ (.cons ⟨none,0,rfl,Nat.le_refl _,λh=>(h rfl).elim⟩ .nil)))),rfl,rfl,_,rfl⟩
def Qq6:(∀F w,QW ([ti (0:Int),tvs nilV,tvs nilV,tvs nilV]) F w ((.agg #[(.int .i64 0),(.slice none 0 0),(.slice none 0 0),(.slice none 0 0)]):Value).cells.toList)/\([ti (0:Int),tvs nilV,tvs nilV,tvs nilV]).length=4/\Qb.agg=true/\∃cs,((.agg #[(.int .i64 0),(.slice none 0 0),(.slice none 0 0),(.slice none 0 0)]):Value)=.agg cs:=⟨λ_ _=>(.cons rfl (.cons ⟨rfl,rfl⟩ (.cons ⟨rfl,rfl⟩ (.cons ⟨rfl,rfl⟩ .nil)))),rfl,rfl,_,rfl⟩
def Qta:(∀F w,QW ([ti (0:Int),tvs nilV,tsl Qo ([]:(List Qr)),tvs nilV]) F w ((.agg #[(.int .i64 0),(.slice none 0 0),(.slice none 0 0),(.slice none 0 0)]):Value).cells.toList)/\([ti (0:Int),tvs nilV,tsl Qo ([]:(List Qr)),tvs nilV]).length=4/\Qb.agg=true/\∃cs,((.agg #[(.int .i64 0),(.slice none 0 0),(.slice none 0 0),(.slice none 0 0)]):Value)=.agg cs:=⟨λ_ _=>(.cons rfl (.cons ⟨rfl,rfl⟩ (.cons ⟨none,0,rfl,Nat.le_refl _,λh=>(h rfl).elim⟩ (.cons ⟨rfl,rfl⟩ .nil)))),rfl,rfl,_,rfl⟩
structure Qt where
  Op:Int
  Xh:Str
  Field:Str
  Xi:Str
  N:Int
  M:Int
deriving Inhabited
@[reducible] def Qx : Rep Qt := ⟨λx => ([ti x.Op,tv (.string (sB x.Xh)),tv (.string (sB x.Field)),tv (.string (sB x.Xi)),ti x.N,ti x.M]),6,true,λ_ => rfl,λ_ => (Qk (QO rfl) (Qk (QO rfl) (Qk (QO rfl) (Qk (QO rfl) (Qk (QO rfl) (Qk (QO rfl) Q5)))))),λh => (by cases h)⟩
theorem Qa6:TOk prog 66 Qx 72 (.agg #[(.int .i64 0),(.string .empty),(.string .empty),(.string .empty),(.int .i64 0),(.int .i64 0)]):=⟨⟨_,underlying66,rfl⟩,by kernel_rfl,rfl⟩
def zc66:∀F w,QW (Qx.cs (Qt.mk (0:Int) ([]:Str) ([]:Str) ([]:Str) (0:Int) (0:Int))) F w ((.agg #[(.int .i64 0),(.string .empty),(.string .empty),(.string .empty),(.int .i64 0),(.int .i64 0)]):Value).cells.toList:=λ_ _=>(.cons rfl (.cons rfl (.cons rfl (.cons rfl (.cons rfl (.cons rfl .nil))))))
def zok66:∀F w,(Qx.ty (Qt.mk (0:Int) ([]:Str) ([]:Str) ([]:Str) (0:Int) (0:Int))).ok F w (.agg #[(.int .i64 0),(.string .empty),(.string .empty),(.string .empty),(.int .i64 0),(.int .i64 0)]):=λF w=>⟨_,rfl,zc66 F w⟩
def zv66:(prog.info? 66).bind (·.zero)=some (.agg #[(.int .i64 0),(.string .empty),(.string .empty),(.string .empty),(.int .i64 0),(.int .i64 0)]):=by kernel_rfl
def pl66 : ∀ w, ((#[⟨"Op", 3, 0, false, "", "", 0⟩, ⟨"Kind", 9, 1, false, "", "", 8⟩, ⟨"Field", 9, 2, false, "", "", 24⟩, ⟨"Name", 9, 3, false, "", "", 40⟩, ⟨"N", 3, 4, false, "", "", 56⟩, ⟨"M", 3, 5, false, "", "", 64⟩] : Array Field).mapM (fun f => do pure (f.offset, ← sizeOf f.type) : Field → Sem (Nat × Nat))).run Tryz.prog w = .ok #[(0, 1), (1, 1), (2, 1), (3, 1), (4, 1), (5, 1)] w := fun _ => by kernel_rfl
def tok29:TOk prog 29 (rSl Qx) 24 (.slice none 0 0):=⟨⟨_,underlying29,rfl⟩,by kernel_rfl,rfl⟩
def Qqv:TOk prog 33 (rSl Qb) 24 (.slice none 0 0):=⟨⟨_,underlying33,rfl⟩,by kernel_rfl,rfl⟩
def zok33:∀F w,((rSl Qb).ty ([]:(List Qa))).ok F w (.slice none 0 0):=λ_ _=>⟨none,0,rfl,Nat.le_refl _,λh=>(h rfl).elim⟩
def Qe8:TOk prog 36 rI 8 (.int .i64 0):=⟨⟨_,underlying36,rfl⟩,by kernel_rfl,rfl⟩
def zok36:∀F w,(rI.ty (0:Int)).ok F w (.int .i64 0):=λ_ _=>rfl
structure Qn where
  Op:Int
  Xh:Str
  Field:Str
  Xi:Str
  N:Int
  M:Int
deriving Inhabited
@[reducible] def Qv : Rep Qn := ⟨λx => ([ti x.Op,tv (.string (sB x.Xh)),tv (.string (sB x.Field)),tv (.string (sB x.Xi)),ti x.N,ti x.M]),6,true,λ_ => rfl,λ_ => (Qk (QO rfl) (Qk (QO rfl) (Qk (QO rfl) (Qk (QO rfl) (Qk (QO rfl) (Qk (QO rfl) Q5)))))),λh => (by cases h)⟩
theorem Qde:TOk prog 75 Qv 72 (.agg #[(.int .i64 0),(.string .empty),(.string .empty),(.string .empty),(.int .i64 0),(.int .i64 0)]):=⟨⟨_,underlying75,rfl⟩,by kernel_rfl,rfl⟩
def zc75:∀F w,QW (Qv.cs (Qn.mk (0:Int) ([]:Str) ([]:Str) ([]:Str) (0:Int) (0:Int))) F w ((.agg #[(.int .i64 0),(.string .empty),(.string .empty),(.string .empty),(.int .i64 0),(.int .i64 0)]):Value).cells.toList:=λ_ _=>(.cons rfl (.cons rfl (.cons rfl (.cons rfl (.cons rfl (.cons rfl .nil))))))
def zok75:∀F w,(Qv.ty (Qn.mk (0:Int) ([]:Str) ([]:Str) ([]:Str) (0:Int) (0:Int))).ok F w (.agg #[(.int .i64 0),(.string .empty),(.string .empty),(.string .empty),(.int .i64 0),(.int .i64 0)]):=λF w=>⟨_,rfl,zc75 F w⟩
def zv75:(prog.info? 75).bind (·.zero)=some (.agg #[(.int .i64 0),(.string .empty),(.string .empty),(.string .empty),(.int .i64 0),(.int .i64 0)]):=by kernel_rfl
def pl75 : ∀ w, ((#[⟨"Op", 3, 0, false, "", "", 0⟩, ⟨"Kind", 9, 1, false, "", "", 8⟩, ⟨"Field", 9, 2, false, "", "", 24⟩, ⟨"Name", 9, 3, false, "", "", 40⟩, ⟨"N", 3, 4, false, "", "", 56⟩, ⟨"M", 3, 5, false, "", "", 64⟩] : Array Field).mapM (fun f => do pure (f.offset, ← sizeOf f.type) : Field → Sem (Nat × Nat))).run Tryz.prog w = .ok #[(0, 1), (1, 1), (2, 1), (3, 1), (4, 1), (5, 1)] w := fun _ => by kernel_rfl
def Qzy:TOk prog 39 (rSl Qv) 24 (.slice none 0 0):=⟨⟨_,underlying39,rfl⟩,by kernel_rfl,rfl⟩
structure QD where
  L:(List Int)
  I:Int
deriving Inhabited
@[reducible] def Qu : Rep QD := ⟨λx => ([tsl rI x.L,ti x.I]),2,true,λ_ => rfl,λ_ => (Qk QaH (Qk (QO rfl) Q5)),λh => (by cases h)⟩
theorem tok50:TOk prog 50 Qu 32 (.agg #[(.slice none 0 0),(.int .i64 0)]):=⟨⟨_,underlying50,rfl⟩,by kernel_rfl,rfl⟩
def zc50:∀F w,QW (Qu.cs (QD.mk ([]:(List Int)) (0:Int))) F w ((.agg #[(.slice none 0 0),(.int .i64 0)]):Value).cells.toList:=λ_ _=>(.cons ⟨none,0,rfl,Nat.le_refl _,λh=>(h rfl).elim⟩ (.cons rfl .nil))
def zok50:∀F w,(Qu.ty (QD.mk ([]:(List Int)) (0:Int))).ok F w (.agg #[(.slice none 0 0),(.int .i64 0)]):=λF w=>⟨_,rfl,zc50 F w⟩
def zv50:(prog.info? 50).bind (·.zero)=some (.agg #[(.slice none 0 0),(.int .i64 0)]):=by kernel_rfl
def pl50 : ∀ w, ((#[⟨"L", 22, 0, false, "", "", 0⟩, ⟨"I", 3, 1, false, "", "", 24⟩] : Array Field).mapM (fun f => do pure (f.offset, ← sizeOf f.type) : Field → Sem (Nat × Nat))).run Tryz.prog w = .ok #[(0, 1), (1, 1)] w := fun _ => by kernel_rfl
structure Qj where
  kind:Int
  field:Int
  rule:Int
deriving Inhabited
@[reducible] def Qi : Rep Qj := ⟨λx => ([ti x.kind,ti x.field,ti x.rule]),3,true,λ_ => rfl,λ_ => (Qk (QO rfl) (Qk (QO rfl) (Qk (QO rfl) Q5))),λh => (by cases h)⟩
theorem QaB:TOk prog 104 Qi 24 (.agg #[(.int .i64 0),(.int .i64 0),(.int .i64 0)]):=⟨⟨_,underlying104,rfl⟩,by kernel_rfl,rfl⟩
def zc104:∀F w,QW (Qi.cs (Qj.mk (0:Int) (0:Int) (0:Int))) F w ((.agg #[(.int .i64 0),(.int .i64 0),(.int .i64 0)]):Value).cells.toList:=λ_ _=>(.cons rfl (.cons rfl (.cons rfl .nil)))
def Qj9:∀F w,(Qi.ty (Qj.mk (0:Int) (0:Int) (0:Int))).ok F w (.agg #[(.int .i64 0),(.int .i64 0),(.int .i64 0)]):=λF w=>⟨_,rfl,zc104 F w⟩
def zv104:(prog.info? 104).bind (·.zero)=some (.agg #[(.int .i64 0),(.int .i64 0),(.int .i64 0)]):=by kernel_rfl
def pl104 : ∀ w, ((#[⟨"kind", 3, 0, false, "", "diorama/convert", 0⟩, ⟨"field", 3, 1, false, "", "diorama/convert", 8⟩, ⟨"rule", 3, 2, false, "", "diorama/convert", 16⟩] : Array Field).mapM (fun f => do pure (f.offset, ← sizeOf f.type) : Field → Sem (Nat × Nat))).run Tryz.prog w = .ok #[(0, 1), (1, 1), (2, 1)] w := fun _ => by kernel_rfl
def Qtd:TOk prog 72 (rSl Qi) 24 (.slice none 0 0):=⟨⟨_,underlying72,rfl⟩,by kernel_rfl,rfl⟩
def zok72:∀F w,((rSl Qi).ty ([]:(List Qj))).ok F w (.slice none 0 0):=λ_ _=>⟨none,0,rfl,Nat.le_refl _,λh=>(h rfl).elim⟩
@[reducible] def tF79 (p : (Qn -> Option Bool)) : Ty := tfn prog [] (A := Qn) (B := Bool) (λx => [Qv.ty x]) (λy => tb y) (p)
@[reducible] def rF79 : Rep (Qn -> Option Bool) := ⟨λp => [tF79 p],1,false,λ_ => rfl,λ_ => Qk Qeo Q5,λ_ => rfl⟩
@[reducible] def rFo79 : Rep (Option (Qn -> Option Bool)) := ⟨λp => [tfo (tF79) p],1,false,λ_ => rfl,λ_ => Qk (Qsr (λ_ => Qeo)) Q5,λ_ => rfl⟩
theorem tok79:TOk prog 79 rF79 8 .nilFunc:=⟨⟨_,underlying79,rfl⟩,by kernel_rfl,rfl⟩
def zok79:∀F w,(rFo79.ty none).ok F w .nilFunc:=λ_ _=>rfl
def QbX:TOk prog 87 (rSl (rSl rI)) 24 (.slice none 0 0):=⟨⟨_,underlying87,rfl⟩,by kernel_rfl,rfl⟩
def Qqw:TOk prog 84 (rSl (rSl (rSl rI))) 24 (.slice none 0 0):=⟨⟨_,underlying84,rfl⟩,by kernel_rfl,rfl⟩
structure QP where
  Xh:Int
  Field:Int
  Rule:Int
  Code:Int
deriving Inhabited
@[reducible] def Qai : Rep QP := ⟨λx => ([ti x.Xh,ti x.Field,ti x.Rule,ti x.Code]),4,true,λ_ => rfl,λ_ => (Qk (QO rfl) (Qk (QO rfl) (Qk (QO rfl) (Qk (QO rfl) Q5)))),λh => (by cases h)⟩
theorem Qul:TOk prog 101 Qai 32 (.agg #[(.int .i64 0),(.int .i64 0),(.int .i64 0),(.int .i64 0)]):=⟨⟨_,underlying101,rfl⟩,by kernel_rfl,rfl⟩
def zc101:∀F w,QW (Qai.cs (QP.mk (0:Int) (0:Int) (0:Int) (0:Int))) F w ((.agg #[(.int .i64 0),(.int .i64 0),(.int .i64 0),(.int .i64 0)]):Value).cells.toList:=λ_ _=>(.cons rfl (.cons rfl (.cons rfl (.cons rfl .nil))))
def zok101:∀F w,(Qai.ty (QP.mk (0:Int) (0:Int) (0:Int) (0:Int))).ok F w (.agg #[(.int .i64 0),(.int .i64 0),(.int .i64 0),(.int .i64 0)]):=λF w=>⟨_,rfl,zc101 F w⟩
def zv101:(prog.info? 101).bind (·.zero)=some (.agg #[(.int .i64 0),(.int .i64 0),(.int .i64 0),(.int .i64 0)]):=by kernel_rfl
def pl101 : ∀ w, ((#[⟨"Kind", 3, 0, false, "", "", 0⟩, ⟨"Field", 3, 1, false, "", "", 8⟩, ⟨"Rule", 3, 2, false, "", "", 16⟩, ⟨"Code", 36, 3, false, "", "", 24⟩] : Array Field).mapM (fun f => do pure (f.offset, ← sizeOf f.type) : Field → Sem (Nat × Nat))).run Tryz.prog w = .ok #[(0, 1), (1, 1), (2, 1), (3, 1)] w := fun _ => by kernel_rfl
def Qq7:TOk prog 113 rFid 8 .nilFunc:=⟨⟨_,underlying113,rfl⟩,by kernel_rfl,rfl⟩
def zok113:∀F w,(rFid.ty none).ok F w .nilFunc:=λ_ _=>rfl
def Qum:TOk prog 114 rFid 8 .nilFunc:=⟨⟨_,underlying114,rfl⟩,by kernel_rfl,rfl⟩
def zok114:∀F w,(rFid.ty none).ok F w .nilFunc:=λ_ _=>rfl
def Qq8:TOk prog 115 rFid 8 .nilFunc:=⟨⟨_,underlying115,rfl⟩,by kernel_rfl,rfl⟩
def zok115:∀F w,(rFid.ty none).ok F w .nilFunc:=λ_ _=>rfl
def Qq9:TOk prog 116 rFid 8 .nilFunc:=⟨⟨_,underlying116,rfl⟩,by kernel_rfl,rfl⟩
def zok116:∀F w,(rFid.ty none).ok F w .nilFunc:=λ_ _=>rfl
structure Qs where
  kind:Bool
  field:Bool
  rule:Bool
  wrong:(Option Nat)
  next':(Option Nat)
  there:(Option Nat)
  back:(Option Nat)
deriving Inhabited
@[reducible] def QN : Rep Qs := ⟨λx => ([tb x.kind,tb x.field,tb x.rule,tv (fidV x.wrong),tv (fidV x.next'),tv (fidV x.there),tv (fidV x.back)]),7,true,λ_ => rfl,λ_ => (Qk (QO rfl) (Qk (QO rfl) (Qk (QO rfl) (Qk Qnh (Qk Qnh (Qk Qnh (Qk Qnh Q5))))))),λh => (by cases h)⟩
theorem QbI:TOk prog 118 QN 40 (.agg #[(.bool false),(.bool false),(.bool false),.nilFunc,.nilFunc,.nilFunc,.nilFunc]):=⟨⟨_,underlying118,rfl⟩,by kernel_rfl,rfl⟩
def zc118:∀F w,QW (QN.cs (Qs.mk false false false none none none none)) F w ((.agg #[(.bool false),(.bool false),(.bool false),.nilFunc,.nilFunc,.nilFunc,.nilFunc]):Value).cells.toList:=λ_ _=>(.cons rfl (.cons rfl (.cons rfl (.cons rfl (.cons rfl (.cons rfl (.cons rfl .nil)))))))
def QmC:∀F w,(QN.ty (Qs.mk false false false none none none none)).ok F w (.agg #[(.bool false),(.bool false),(.bool false),.nilFunc,.nilFunc,.nilFunc,.nilFunc]):=λF w=>⟨_,rfl,zc118 F w⟩
def QzB:(prog.info? 118).bind (·.zero)=some (.agg #[(.bool false),(.bool false),(.bool false),.nilFunc,.nilFunc,.nilFunc,.nilFunc]):=by kernel_rfl
def pl118 : ∀ w, ((#[⟨"kind", 4, 0, false, "", "diorama/convert", 0⟩, ⟨"field", 4, 1, false, "", "diorama/convert", 1⟩, ⟨"rule", 4, 2, false, "", "diorama/convert", 2⟩, ⟨"wrong", 113, 3, false, "", "diorama/convert", 8⟩, ⟨"next", 114, 4, false, "", "diorama/convert", 16⟩, ⟨"there", 115, 5, false, "", "diorama/convert", 24⟩, ⟨"back", 116, 6, false, "", "diorama/convert", 32⟩] : Array Field).mapM (fun f => do pure (f.offset, ← sizeOf f.type) : Field → Sem (Nat × Nat))).run Tryz.prog w = .ok #[(0, 1), (1, 1), (2, 1), (3, 1), (4, 1), (5, 1), (6, 1)] w := fun _ => by kernel_rfl
structure QF where
  Xh:Int
  Field:Int
  Rule:Int
  Code:Int
deriving Inhabited
@[reducible] def Qap : Rep QF := ⟨λx => ([ti x.Xh,ti x.Field,ti x.Rule,ti x.Code]),4,true,λ_ => rfl,λ_ => (Qk (QO rfl) (Qk (QO rfl) (Qk (QO rfl) (Qk (QO rfl) Q5)))),λh => (by cases h)⟩
theorem Qzr:TOk prog 137 Qap 32 (.agg #[(.int .i64 0),(.int .i64 0),(.int .i64 0),(.int .i64 0)]):=⟨⟨_,underlying137,rfl⟩,by kernel_rfl,rfl⟩
def zc137:∀F w,QW (Qap.cs (QF.mk (0:Int) (0:Int) (0:Int) (0:Int))) F w ((.agg #[(.int .i64 0),(.int .i64 0),(.int .i64 0),(.int .i64 0)]):Value).cells.toList:=λ_ _=>(.cons rfl (.cons rfl (.cons rfl (.cons rfl .nil))))
def zok137:∀F w,(Qap.ty (QF.mk (0:Int) (0:Int) (0:Int) (0:Int))).ok F w (.agg #[(.int .i64 0),(.int .i64 0),(.int .i64 0),(.int .i64 0)]):=λF w=>⟨_,rfl,zc137 F w⟩
def zv137:(prog.info? 137).bind (·.zero)=some (.agg #[(.int .i64 0),(.int .i64 0),(.int .i64 0),(.int .i64 0)]):=by kernel_rfl
def pl137 : ∀ w, ((#[⟨"Kind", 3, 0, false, "", "", 0⟩, ⟨"Field", 3, 1, false, "", "", 8⟩, ⟨"Rule", 3, 2, false, "", "", 16⟩, ⟨"Code", 36, 3, false, "", "", 24⟩] : Array Field).mapM (fun f => do pure (f.offset, ← sizeOf f.type) : Field → Sem (Nat × Nat))).run Tryz.prog w = .ok #[(0, 1), (1, 1), (2, 1), (3, 1)] w := fun _ => by kernel_rfl
structure Qy where
  Xh:Int
  Index:Int
  Field:Int
  Code:Int
deriving Inhabited
@[reducible] def QM : Rep Qy := ⟨λx => ([ti x.Xh,ti x.Index,ti x.Field,ti x.Code]),4,true,λ_ => rfl,λ_ => (Qk (QO rfl) (Qk (QO rfl) (Qk (QO rfl) (Qk (QO rfl) Q5)))),λh => (by cases h)⟩
theorem Qra:TOk prog 152 QM 32 (.agg #[(.int .i64 0),(.int .i64 0),(.int .i64 0),(.int .i64 0)]):=⟨⟨_,underlying152,rfl⟩,by kernel_rfl,rfl⟩
def zc152:∀F w,QW (QM.cs (Qy.mk (0:Int) (0:Int) (0:Int) (0:Int))) F w ((.agg #[(.int .i64 0),(.int .i64 0),(.int .i64 0),(.int .i64 0)]):Value).cells.toList:=λ_ _=>(.cons rfl (.cons rfl (.cons rfl (.cons rfl .nil))))
def zok152:∀F w,(QM.ty (Qy.mk (0:Int) (0:Int) (0:Int) (0:Int))).ok F w (.agg #[(.int .i64 0),(.int .i64 0),(.int .i64 0),(.int .i64 0)]):=λF w=>⟨_,rfl,zc152 F w⟩
def zv152:(prog.info? 152).bind (·.zero)=some (.agg #[(.int .i64 0),(.int .i64 0),(.int .i64 0),(.int .i64 0)]):=by kernel_rfl
def pl152 : ∀ w, ((#[⟨"Kind", 3, 0, false, "", "", 0⟩, ⟨"Index", 3, 1, false, "", "", 8⟩, ⟨"Field", 3, 2, false, "", "", 16⟩, ⟨"Code", 36, 3, false, "", "", 24⟩] : Array Field).mapM (fun f => do pure (f.offset, ← sizeOf f.type) : Field → Sem (Nat × Nat))).run Tryz.prog w = .ok #[(0, 1), (1, 1), (2, 1), (3, 1)] w := fun _ => by kernel_rfl
@[reducible] def tF154 (p : (Qh -> Option Bool)) : Ty := tfn prog [] (A := Qh) (B := Bool) (λx => [Qp.ty x]) (λy => tb y) (p)
@[reducible] def Qop : Rep (Qh -> Option Bool) := ⟨λp => [tF154 p],1,false,λ_ => rfl,λ_ => Qk Qeo Q5,λ_ => rfl⟩
@[reducible] def QzJ : Rep (Option (Qh -> Option Bool)) := ⟨λp => [tfo (tF154) p],1,false,λ_ => rfl,λ_ => Qk (Qsr (λ_ => Qeo)) Q5,λ_ => rfl⟩
theorem tok154:TOk prog 154 Qop 8 .nilFunc:=⟨⟨_,underlying154,rfl⟩,by kernel_rfl,rfl⟩
def zok154:∀F w,(QzJ.ty none).ok F w .nilFunc:=λ_ _=>rfl
@[reducible] def tF155 (p : (Qr -> Option Bool)) : Ty := tfn prog [] (A := Qr) (B := Bool) (λx => [Qo.ty x]) (λy => tb y) (p)
@[reducible] def Qoq : Rep (Qr -> Option Bool) := ⟨λp => [tF155 p],1,false,λ_ => rfl,λ_ => Qk Qeo Q5,λ_ => rfl⟩
@[reducible] def QzK : Rep (Option (Qr -> Option Bool)) := ⟨λp => [tfo (tF155) p],1,false,λ_ => rfl,λ_ => Qk (Qsr (λ_ => Qeo)) Q5,λ_ => rfl⟩
theorem tok155:TOk prog 155 Qoq 8 .nilFunc:=⟨⟨_,underlying155,rfl⟩,by kernel_rfl,rfl⟩
def zok155:∀F w,(QzK.ty none).ok F w .nilFunc:=λ_ _=>rfl
@[reducible] def tF156 (p : (Qm -> Option Bool)) : Ty := tfn prog [] (A := Qm) (B := Bool) (λx => [Ql.ty x]) (λy => tb y) (p)
@[reducible] def Qor : Rep (Qm -> Option Bool) := ⟨λp => [tF156 p],1,false,λ_ => rfl,λ_ => Qk Qeo Q5,λ_ => rfl⟩
@[reducible] def QzL : Rep (Option (Qm -> Option Bool)) := ⟨λp => [tfo (tF156) p],1,false,λ_ => rfl,λ_ => Qk (Qsr (λ_ => Qeo)) Q5,λ_ => rfl⟩
theorem tok156:TOk prog 156 Qor 8 .nilFunc:=⟨⟨_,underlying156,rfl⟩,by kernel_rfl,rfl⟩
def zok156:∀F w,(QzL.ty none).ok F w .nilFunc:=λ_ _=>rfl
structure Qat where
  is:Bool
  code:Int
deriving Inhabited
@[reducible] def QcZ : Rep Qat := ⟨λx => ([tb x.is,ti x.code]),2,true,λ_ => rfl,λ_ => (Qk (QO rfl) (Qk (QO rfl) Q5)),λh => (by cases h)⟩
theorem Qzs:TOk prog 165 QcZ 16 (.agg #[(.bool false),(.int .i64 0)]):=⟨⟨_,underlying165,rfl⟩,by kernel_rfl,rfl⟩
def QzD:∀F w,QW (QcZ.cs (Qat.mk false (0:Int))) F w ((.agg #[(.bool false),(.int .i64 0)]):Value).cells.toList:=λ_ _=>(.cons rfl (.cons rfl .nil))
def zok165:∀F w,(QcZ.ty (Qat.mk false (0:Int))).ok F w (.agg #[(.bool false),(.int .i64 0)]):=λF w=>⟨_,rfl,QzD F w⟩
def zv165:(prog.info? 165).bind (·.zero)=some (.agg #[(.bool false),(.int .i64 0)]):=by kernel_rfl
def pl165 : ∀ w, ((#[⟨"is", 4, 0, false, "", "diorama/typing", 0⟩, ⟨"code", 36, 1, false, "", "diorama/typing", 8⟩] : Array Field).mapM (fun f => do pure (f.offset, ← sizeOf f.type) : Field → Sem (Nat × Nat))).run Tryz.prog w = .ok #[(0, 1), (1, 1)] w := fun _ => by kernel_rfl
structure QaJ where
  x:Qa
  kind:Int
  field:Int
  f:Qd
deriving Inhabited
@[reducible] def Qbu : Rep QaJ := ⟨λx => (Qb.cs x.x ++ [ti x.kind,ti x.field] ++ Qe.cs x.f),14,true,λ_ => rfl,λ_ => (Qna (Qna (Qm9 Qb) (Qk (QO rfl) (Qk (QO rfl) Q5))) (Qm9 Qe)),λh => (by cases h)⟩
theorem QzM:TOk prog 171 Qbu 216 (.agg #[(.int .i64 0),(.slice none 0 0),(.slice none 0 0),(.slice none 0 0),(.int .i64 0),(.int .i64 0),(.string .empty),(.string .empty),(.string .empty),(.int .i64 0),(.int .i64 0),(.int .i64 0),(.slice none 0 0),(.slice none 0 0)]):=⟨⟨_,underlying171,rfl⟩,by kernel_rfl,rfl⟩
def QzE:∀F w,QW (Qbu.cs (QaJ.mk (Qa.mk (0:Int) ([]:(List Qh)) ([]:(List Qr)) ([]:(List Qm))) (0:Int) (0:Int) (Qd.mk ([]:Str) ([]:Str) ([]:Str) (0:Int) (0:Int) (0:Int) ([]:(List Str)) ([]:(List Int))))) F w ((.agg #[(.int .i64 0),(.slice none 0 0),(.slice none 0 0),(.slice none 0 0),(.int .i64 0),(.int .i64 0),(.string .empty),(.string .empty),(.string .empty),(.int .i64 0),(.int .i64 0),(.int .i64 0),(.slice none 0 0),(.slice none 0 0)]):Value).cells.toList:=λ_ _=>(.cons rfl (.cons ⟨none,0,rfl,Nat.le_refl _,λh=>(h rfl).elim⟩ (.cons ⟨none,0,rfl,Nat.le_refl _,λh=>(h rfl).elim⟩ (.cons ⟨none,0,rfl,Nat.le_refl _,λh=>(h rfl).elim⟩ (.cons rfl (.cons rfl (.cons rfl (.cons rfl (.cons rfl (.cons rfl (.cons rfl (.cons rfl (.cons ⟨none,0,rfl,Nat.le_refl _,λh=>(h rfl).elim⟩ (.cons ⟨none,0,rfl,Nat.le_refl _,λh=>(h rfl).elim⟩ .nil))))))))))))))
def zok171:∀F w,(Qbu.ty (QaJ.mk (Qa.mk (0:Int) ([]:(List Qh)) ([]:(List Qr)) ([]:(List Qm))) (0:Int) (0:Int) (Qd.mk ([]:Str) ([]:Str) ([]:Str) (0:Int) (0:Int) (0:Int) ([]:(List Str)) ([]:(List Int))))).ok F w (.agg #[(.int .i64 0),(.slice none 0 0),(.slice none 0 0),(.slice none 0 0),(.int .i64 0),(.int .i64 0),(.string .empty),(.string .empty),(.string .empty),(.int .i64 0),(.int .i64 0),(.int .i64 0),(.slice none 0 0),(.slice none 0 0)]):=λF w=>⟨_,rfl,QzE F w⟩
def zv171:(prog.info? 171).bind (·.zero)=some (.agg #[(.int .i64 0),(.slice none 0 0),(.slice none 0 0),(.slice none 0 0),(.int .i64 0),(.int .i64 0),(.string .empty),(.string .empty),(.string .empty),(.int .i64 0),(.int .i64 0),(.int .i64 0),(.slice none 0 0),(.slice none 0 0)]):=by kernel_rfl
def pl171 : ∀ w, ((#[⟨"x", 27, 0, false, "", "diorama/typing", 0⟩, ⟨"kind", 3, 4, false, "", "diorama/typing", 80⟩, ⟨"field", 3, 5, false, "", "diorama/typing", 88⟩, ⟨"f", 70, 6, false, "", "diorama/typing", 96⟩] : Array Field).mapM (fun f => do pure (f.offset, ← sizeOf f.type) : Field → Sem (Nat × Nat))).run Tryz.prog w = .ok #[(0, 4), (4, 1), (5, 1), (6, 8)] w := fun _ => by kernel_rfl
@[reducible] def tF166 (p : (QaJ -> Option Int)) : Ty := tfn prog [] (A := QaJ) (B := Int) (λx => [Qbu.ty x]) (λy => ti y) (p)
@[reducible] def rF166 : Rep (QaJ -> Option Int) := ⟨λp => [tF166 p],1,false,λ_ => rfl,λ_ => Qk Qeo Q5,λ_ => rfl⟩
@[reducible] def Qun : Rep (Option (QaJ -> Option Int)) := ⟨λp => [tfo (tF166) p],1,false,λ_ => rfl,λ_ => Qk (Qsr (λ_ => Qeo)) Q5,λ_ => rfl⟩
theorem QzN:TOk prog 166 rF166 8 .nilFunc:=⟨⟨_,underlying166,rfl⟩,by kernel_rfl,rfl⟩
def Qv7:TOk prog 166 Qun 8 .nilFunc:=⟨⟨_,underlying166,rfl⟩,by kernel_rfl,rfl⟩
def zok166:∀F w,(Qun.ty none).ok F w .nilFunc:=λ_ _=>rfl
structure QcU where
  check:(Option (QaJ->Option Int))
instance :Inhabited QcU:=⟨⟨none⟩⟩
@[reducible] def Qel : Rep QcU := ⟨λx => ([Qun.ty x.check]),1,true,λ_ => rfl,λ_ => (Qk (Qsr (λ_ => Qeo)) Q5),λh => (by cases h)⟩
theorem Quo:TOk prog 167 Qel 8 (.agg #[.nilFunc]):=⟨⟨_,underlying167,rfl⟩,by kernel_rfl,rfl⟩
def zc167:∀F w,QW (Qel.cs (QcU.mk none)) F w ((.agg #[.nilFunc]):Value).cells.toList:=λ_ _=>(.cons rfl .nil)
def QzO:∀F w,(Qel.ty (QcU.mk none)).ok F w (.agg #[.nilFunc]):=λF w=>⟨_,rfl,zc167 F w⟩
def zv167:(prog.info? 167).bind (·.zero)=some (.agg #[.nilFunc]):=by kernel_rfl
def pl167 : ∀ w, ((#[⟨"check", 166, 0, false, "", "diorama/typing", 0⟩] : Array Field).mapM (fun f => do pure (f.offset, ← sizeOf f.type) : Field → Sem (Nat × Nat))).run Tryz.prog w = .ok #[(0, 1)] w := fun _ => by kernel_rfl
structure QJ where
  kind:Int
  field:Int
  to:Int
deriving Inhabited
@[reducible] def QY : Rep QJ := ⟨λx => ([ti x.kind,ti x.field,ti x.to]),3,true,λ_ => rfl,λ_ => (Qk (QO rfl) (Qk (QO rfl) (Qk (QO rfl) Q5))),λh => (by cases h)⟩
theorem tok188:TOk prog 188 QY 24 (.agg #[(.int .i64 0),(.int .i64 0),(.int .i64 0)]):=⟨⟨_,underlying188,rfl⟩,by kernel_rfl,rfl⟩
def Qrb:TOk prog 182 (rSl QY) 24 (.slice none 0 0):=⟨⟨_,underlying182,rfl⟩,by kernel_rfl,rfl⟩
def tok183:TOk prog 183 rOne 8 (.map none):=⟨⟨_,underlying183,rfl⟩,by kernel_rfl,rfl⟩
def zok183:∀F w,(rOne.ty ()).ok F w (.map none):=λ_ _=>rfl
def tok184:TOk prog 184 rOne 8 (.map none):=⟨⟨_,underlying184,rfl⟩,by kernel_rfl,rfl⟩
def zok184:∀F w,(rOne.ty ()).ok F w (.map none):=λ_ _=>rfl
def QzP:TOk prog 149 (rSl QM) 24 (.slice none 0 0):=⟨⟨_,underlying149,rfl⟩,by kernel_rfl,rfl⟩
structure Qam where
  x:Qa
  w:(List (List (List Int)))
  links:(List QJ)
  refs:Unit
  lives:Unit
  out:(List Qy)
deriving Inhabited
@[reducible] def QkH : Rep Qam := ⟨λx => (Qb.cs x.x ++ [tsl (rSl (rSl rI)) x.w,tsl QY x.links,tone,tone,tsl QM x.out]),9,true,λ_ => rfl,λ_ => (Qna (Qm9 Qb) (Qk QaH (Qk QaH (Qk Qj8 (Qk Qj8 (Qk QaH Q5)))))),λh => (by cases h)⟩
theorem QzQ:TOk prog 186 QkH 168 (.agg #[(.int .i64 0),(.slice none 0 0),(.slice none 0 0),(.slice none 0 0),(.slice none 0 0),(.slice none 0 0),(.map none),(.map none),(.slice none 0 0)]):=⟨⟨_,underlying186,rfl⟩,by kernel_rfl,rfl⟩
def zc186:∀F w,QW (QkH.cs (Qam.mk (Qa.mk (0:Int) ([]:(List Qh)) ([]:(List Qr)) ([]:(List Qm))) ([]:(List (List (List Int)))) ([]:(List QJ)) () () ([]:(List Qy)))) F w ((.agg #[(.int .i64 0),(.slice none 0 0),(.slice none 0 0),(.slice none 0 0),(.slice none 0 0),(.slice none 0 0),(.map none),(.map none),(.slice none 0 0)]):Value).cells.toList:=λ_ _=>(.cons rfl (.cons ⟨none,0,rfl,Nat.le_refl _,λh=>(h rfl).elim⟩ (.cons ⟨none,0,rfl,Nat.le_refl _,λh=>(h rfl).elim⟩ (.cons ⟨none,0,rfl,Nat.le_refl _,λh=>(h rfl).elim⟩ (.cons ⟨none,0,rfl,Nat.le_refl _,λh=>(h rfl).elim⟩ (.cons ⟨none,0,rfl,Nat.le_refl _,λh=>(h rfl).elim⟩ (.cons rfl (.cons rfl (.cons ⟨none,0,rfl,Nat.le_refl _,λh=>(h rfl).elim⟩ .nil)))))))))
def zok186:∀F w,(QkH.ty (Qam.mk (Qa.mk (0:Int) ([]:(List Qh)) ([]:(List Qr)) ([]:(List Qm))) ([]:(List (List (List Int)))) ([]:(List QJ)) () () ([]:(List Qy)))).ok F w (.agg #[(.int .i64 0),(.slice none 0 0),(.slice none 0 0),(.slice none 0 0),(.slice none 0 0),(.slice none 0 0),(.map none),(.map none),(.slice none 0 0)]):=λF w=>⟨_,rfl,zc186 F w⟩
def zv186:(prog.info? 186).bind (·.zero)=some (.agg #[(.int .i64 0),(.slice none 0 0),(.slice none 0 0),(.slice none 0 0),(.slice none 0 0),(.slice none 0 0),(.map none),(.map none),(.slice none 0 0)]):=by kernel_rfl
def pl186 : ∀ w, ((#[⟨"x", 27, 0, false, "", "diorama/world", 0⟩, ⟨"w", 84, 4, false, "", "diorama/world", 80⟩, ⟨"links", 182, 5, false, "", "diorama/world", 104⟩, ⟨"refs", 183, 6, false, "", "diorama/world", 128⟩, ⟨"lives", 184, 7, false, "", "diorama/world", 136⟩, ⟨"out", 149, 8, false, "", "diorama/world", 144⟩] : Array Field).mapM (fun f => do pure (f.offset, ← sizeOf f.type) : Field → Sem (Nat × Nat))).run Tryz.prog w = .ok #[(0, 4), (4, 1), (5, 1), (6, 1), (7, 1), (8, 1)] w := fun _ => by kernel_rfl
def Qup:(∀F w,QW (Qb.cs (Qa.mk (0:Int) ([]:(List Qh)) ([]:(List Qr)) ([]:(List Qm)))++[tsl (rSl (rSl rI)) ([]:(List (List (List Int)))),tsl QY ([]:(List QJ)),tone,tone,tvs nilV]) F w ((.agg #[(.int .i64 0),(.slice none 0 0),(.slice none 0 0),(.slice none 0 0),(.slice none 0 0),(.slice none 0 0),(.map none),(.map none),(.slice none 0 0)]):Value).cells.toList)/\(Qb.cs (Qa.mk (0:Int) ([]:(List Qh)) ([]:(List Qr)) ([]:(List Qm)))++[tsl (rSl (rSl rI)) ([]:(List (List (List Int)))),tsl QY ([]:(List QJ)),tone,tone,tvs nilV]).length=9/\QkH.agg=true/\∃cs,((.agg #[(.int .i64 0),(.slice none 0 0),(.slice none 0 0),(.slice none 0 0),(.slice none 0 0),(.slice none 0 0),(.map none),(.map none),(.slice none 0 0)]):Value)=.agg cs:=⟨λ_ _=>(.cons rfl (.cons ⟨none,0,rfl,Nat.le_refl _,λh=>(h rfl).elim⟩ (.cons ⟨none,0,rfl,Nat.le_refl _,λh=>(h rfl).elim⟩ (.cons ⟨none,0,rfl,Nat.le_refl _,λh=>(h rfl).elim⟩ (.cons ⟨none,0,rfl,Nat.le_refl _,λh=>(h rfl).elim⟩ (.cons ⟨none,0,rfl,Nat.le_refl _,λh=>(h rfl).elim⟩ (.cons rfl (.cons rfl (.cons ⟨rfl,rfl⟩ .nil))))))))),rfl,rfl,_,rfl⟩
@[reducible] def tF189 (p : (Str -> Option Bool)) : Ty := tfn prog [] (A := Str) (B := Bool) (λx => [tv (.string (sB x))]) (λy => tb y) (p)
@[reducible] def Qos : Rep (Str -> Option Bool) := ⟨λp => [tF189 p],1,false,λ_ => rfl,λ_ => Qk Qeo Q5,λ_ => rfl⟩
@[reducible] def QzR : Rep (Option (Str -> Option Bool)) := ⟨λp => [tfo (tF189) p],1,false,λ_ => rfl,λ_ => Qk (Qsr (λ_ => Qeo)) Q5,λ_ => rfl⟩
theorem tok189:TOk prog 189 Qos 8 .nilFunc:=⟨⟨_,underlying189,rfl⟩,by kernel_rfl,rfl⟩
def zok189:∀F w,(QzR.ty none).ok F w .nilFunc:=λ_ _=>rfl
@[reducible] def tF191 (p : (Qd -> Option Bool)) : Ty := tfn prog [] (A := Qd) (B := Bool) (λx => [Qe.ty x]) (λy => tb y) (p)
@[reducible] def Qot : Rep (Qd -> Option Bool) := ⟨λp => [tF191 p],1,false,λ_ => rfl,λ_ => Qk Qeo Q5,λ_ => rfl⟩
@[reducible] def QzS : Rep (Option (Qd -> Option Bool)) := ⟨λp => [tfo (tF191) p],1,false,λ_ => rfl,λ_ => Qk (Qsr (λ_ => Qeo)) Q5,λ_ => rfl⟩
theorem tok191:TOk prog 191 Qot 8 .nilFunc:=⟨⟨_,underlying191,rfl⟩,by kernel_rfl,rfl⟩
def zok191:∀F w,(QzS.ty none).ok F w .nilFunc:=λ_ _=>rfl
@[reducible] def tF208 (p : (Int -> Option Bool)) : Ty := tfn prog [] (A := Int) (B := Bool) (λx => [ti x]) (λy => tb y) (p)
@[reducible] def Qte : Rep (Int -> Option Bool) := ⟨λp => [tF208 p],1,false,λ_ => rfl,λ_ => Qk Qeo Q5,λ_ => rfl⟩
@[reducible] def QzT : Rep (Option (Int -> Option Bool)) := ⟨λp => [tfo (tF208) p],1,false,λ_ => rfl,λ_ => Qk (Qsr (λ_ => Qeo)) Q5,λ_ => rfl⟩
theorem tok208:TOk prog 208 Qte 8 .nilFunc:=⟨⟨_,underlying208,rfl⟩,by kernel_rfl,rfl⟩
def zok208:∀F w,(QzT.ty none).ok F w .nilFunc:=λ_ _=>rfl
@[reducible] def tF209 (p : ((List Int) -> Option Bool)) : Ty := tfn prog [] (A := (List Int)) (B := Bool) (λx => [tsl rI x]) (λy => tb y) (p)
@[reducible] def Qtf : Rep ((List Int) -> Option Bool) := ⟨λp => [tF209 p],1,false,λ_ => rfl,λ_ => Qk Qeo Q5,λ_ => rfl⟩
@[reducible] def QzU : Rep (Option ((List Int) -> Option Bool)) := ⟨λp => [tfo (tF209) p],1,false,λ_ => rfl,λ_ => Qk (Qsr (λ_ => Qeo)) Q5,λ_ => rfl⟩
theorem tok209:TOk prog 209 Qtf 8 .nilFunc:=⟨⟨_,underlying209,rfl⟩,by kernel_rfl,rfl⟩
def zok209:∀F w,(QzU.ty none).ok F w .nilFunc:=λ_ _=>rfl
@[reducible] def tF223 (p : (Int -> Option Bool)) : Ty := tfn prog [] (A := Int) (B := Bool) (λx => [tv (.int .u8 x)]) (λy => tb y) (p)
@[reducible] def Qtg : Rep (Int -> Option Bool) := ⟨λp => [tF223 p],1,false,λ_ => rfl,λ_ => Qk Qeo Q5,λ_ => rfl⟩
@[reducible] def QzV : Rep (Option (Int -> Option Bool)) := ⟨λp => [tfo (tF223) p],1,false,λ_ => rfl,λ_ => Qk (Qsr (λ_ => Qeo)) Q5,λ_ => rfl⟩
theorem tok223:TOk prog 223 Qtg 8 .nilFunc:=⟨⟨_,underlying223,rfl⟩,by kernel_rfl,rfl⟩
def zok223:∀F w,(QzV.ty none).ok F w .nilFunc:=λ_ _=>rfl
@[reducible] def tF231 (p : (Qac -> Option Bool)) : Ty := tfn prog [] (A := Qac) (B := Bool) (λx => [Qaz.ty x]) (λy => tb y) (p)
@[reducible] def Qou : Rep (Qac -> Option Bool) := ⟨λp => [tF231 p],1,false,λ_ => rfl,λ_ => Qk Qeo Q5,λ_ => rfl⟩
@[reducible] def QzW : Rep (Option (Qac -> Option Bool)) := ⟨λp => [tfo (tF231) p],1,false,λ_ => rfl,λ_ => Qk (Qsr (λ_ => Qeo)) Q5,λ_ => rfl⟩
theorem tok231:TOk prog 231 Qou 8 .nilFunc:=⟨⟨_,underlying231,rfl⟩,by kernel_rfl,rfl⟩
def zok231:∀F w,(QzW.ty none).ok F w .nilFunc:=λ_ _=>rfl
def Qjm:TOk prog 22 rVal 24 (.slice none 0 0):=⟨⟨_,underlying22,rfl⟩,by kernel_rfl,rfl⟩
def Qa7:TOk prog 23 rVal 24 (.slice none 0 0):=⟨⟨_,underlying23,rfl⟩,by kernel_rfl,rfl⟩
def QhL:TOk prog 24 rVal 24 (.slice none 0 0):=⟨⟨_,underlying24,rfl⟩,by kernel_rfl,rfl⟩
def QhM:TOk prog 25 rVal 24 (.slice none 0 0):=⟨⟨_,underlying25,rfl⟩,by kernel_rfl,rfl⟩
def Qbe:TOk prog 52 rVal 24 (.slice none 0 0):=⟨⟨_,underlying52,rfl⟩,by kernel_rfl,rfl⟩
def Qov:TOk prog 56 rVal 24 (.slice none 0 0):=⟨⟨_,underlying56,rfl⟩,by kernel_rfl,rfl⟩
def QzX:TOk prog 57 rVal 24 (.slice none 0 0):=⟨⟨_,underlying57,rfl⟩,by kernel_rfl,rfl⟩
def Qix:TOk prog 84 rVal 24 (.slice none 0 0):=⟨⟨_,underlying84,rfl⟩,by kernel_rfl,rfl⟩
def Qll:TOk prog 87 rVal 24 (.slice none 0 0):=⟨⟨_,underlying87,rfl⟩,by kernel_rfl,rfl⟩
def Qxm:TOk prog 135 rVal 24 (.slice none 0 0):=⟨⟨_,underlying135,rfl⟩,by kernel_rfl,rfl⟩
def Qpd:TOk prog 149 rVal 24 (.slice none 0 0):=⟨⟨_,underlying149,rfl⟩,by kernel_rfl,rfl⟩
def QiT:QI prog 27 0 0:=QI.mk underlying27 rfl rfl tok3 (by decide)
def QZ:QI prog 27 1 1:=QI.mk underlying27 rfl rfl Qa0 (by decide)
def Qct:QI prog 27 2 2:=QI.mk underlying27 rfl rfl Qiw (by decide)
def QaO:QI prog 27 3 3:=QI.mk underlying27 rfl rfl QcH (by decide)
def QAN:QI prog 50 0 0:=QI.mk underlying50 rfl rfl QbW (by decide)
def Qxn:QI prog 50 1 1:=QI.mk underlying50 rfl rfl tok3 (by decide)
def Qgv:QI prog 54 0 0:=QI.mk underlying54 rfl rfl tok9 (by decide)
def Qij:QI prog 54 1 1:=QI.mk underlying54 rfl rfl tok3 (by decide)
def Qik:QI prog 54 2 2:=QI.mk underlying54 rfl rfl tok3 (by decide)
def Qaf:QI prog 54 3 3:=QI.mk underlying54 rfl rfl QbG (by decide)
def Qxo:QI prog 59 0 0:=QI.mk underlying59 rfl rfl tok9 (by decide)
def Qlm:QI prog 59 1 1:=QI.mk underlying59 rfl rfl Qhs (by decide)
def QiU:QI prog 59 2 2:=QI.mk underlying59 rfl rfl QlN (by decide)
def Qln:QI prog 62 0 0:=QI.mk underlying62 rfl rfl tok9 (by decide)
def Qht:QI prog 62 1 1:=QI.mk underlying62 rfl rfl tok9 (by decide)
def Qil:QI prog 62 2 2:=QI.mk underlying62 rfl rfl tok9 (by decide)
def Qim:QI prog 62 3 3:=QI.mk underlying62 rfl rfl tok9 (by decide)
def Qpe:QI prog 62 4 4:=QI.mk underlying62 rfl rfl tok3 (by decide)
def QdV:QI prog 66 0 0:=QI.mk underlying66 rfl rfl tok3 (by decide)
def Qni:QI prog 66 1 1:=QI.mk underlying66 rfl rfl tok9 (by decide)
def Qin:QI prog 66 2 2:=QI.mk underlying66 rfl rfl tok9 (by decide)
def QeX:QI prog 66 3 3:=QI.mk underlying66 rfl rfl tok9 (by decide)
def Qdp:QI prog 66 4 4:=QI.mk underlying66 rfl rfl tok3 (by decide)
def Qep:QI prog 66 5 5:=QI.mk underlying66 rfl rfl tok3 (by decide)
def QeY:QI prog 70 0 0:=QI.mk underlying70 rfl rfl tok9 (by decide)
def Qio:QI prog 70 1 1:=QI.mk underlying70 rfl rfl tok9 (by decide)
def Qlo:QI prog 70 2 2:=QI.mk underlying70 rfl rfl tok9 (by decide)
def QbY:QI prog 70 3 3:=QI.mk underlying70 rfl rfl tok3 (by decide)
def Qip:QI prog 70 4 4:=QI.mk underlying70 rfl rfl tok3 (by decide)
def QiV:QI prog 70 5 5:=QI.mk underlying70 rfl rfl tok3 (by decide)
def Qgw:QI prog 70 6 6:=QI.mk underlying70 rfl rfl Qhs (by decide)
def Qgx:QI prog 70 7 7:=QI.mk underlying70 rfl rfl QbW (by decide)
def Qnj:QI prog 75 0 0:=QI.mk underlying75 rfl rfl tok3 (by decide)
def Qxp:QI prog 75 1 1:=QI.mk underlying75 rfl rfl tok9 (by decide)
def Qsv:QI prog 75 2 2:=QI.mk underlying75 rfl rfl tok9 (by decide)
def Qlp:QI prog 75 3 3:=QI.mk underlying75 rfl rfl tok9 (by decide)
def Qgy:QI prog 75 4 4:=QI.mk underlying75 rfl rfl tok3 (by decide)
def Qiq:QI prog 75 5 5:=QI.mk underlying75 rfl rfl tok3 (by decide)
def Qrc:QI prog 101 3 3:=QI.mk underlying101 rfl rfl Qe8 (by decide)
def Qa1:QI prog 104 0 0:=QI.mk underlying104 rfl rfl tok3 (by decide)
def QdD:QI prog 104 1 1:=QI.mk underlying104 rfl rfl tok3 (by decide)
def Qka:QI prog 104 2 2:=QI.mk underlying104 rfl rfl tok3 (by decide)
def Qrd:QI prog 118 1 1:=QI.mk underlying118 rfl rfl tok4 (by decide)
def Qv8:QI prog 118 2 2:=QI.mk underlying118 rfl rfl tok4 (by decide)
def Qre:QI prog 118 3 3:=QI.mk underlying118 rfl rfl Qq7 (by decide)
def Qv9:QI prog 118 4 4:=QI.mk underlying118 rfl rfl Qum (by decide)
def Qrf:QI prog 118 5 5:=QI.mk underlying118 rfl rfl Qq8 (by decide)
def Qrg:QI prog 118 6 6:=QI.mk underlying118 rfl rfl Qq9 (by decide)
def Qwa:QI prog 137 3 3:=QI.mk underlying137 rfl rfl Qe8 (by decide)
def Qwb:QI prog 152 3 3:=QI.mk underlying152 rfl rfl Qe8 (by decide)
def QAC:QI prog 165 0 0:=QI.mk underlying165 rfl rfl tok4 (by decide)
def QAD:QI prog 165 1 1:=QI.mk underlying165 rfl rfl Qe8 (by decide)
def Qwc:QI prog 167 0 0:=QI.mk underlying167 rfl rfl QzN (by decide)
def QAE:QI prog 171 0 0:=QI.mk underlying171 rfl rfl QH (by decide)
def QAF:QI prog 171 1 4:=QI.mk underlying171 rfl rfl tok3 (by decide)
def QAG:QI prog 171 2 5:=QI.mk underlying171 rfl rfl tok3 (by decide)
def QAH:QI prog 171 3 6:=QI.mk underlying171 rfl rfl Q4 (by decide)
def Qwd:QI prog 186 0 0:=QI.mk underlying186 rfl rfl QH (by decide)
def Qwe:QI prog 186 1 4:=QI.mk underlying186 rfl rfl Qqw (by decide)
def Qrh:QI prog 186 2 5:=QI.mk underlying186 rfl rfl Qrb (by decide)
def QnS:QI prog 186 5 8:=QI.mk underlying186 rfl rfl QzP (by decide)
def call4:QB prog 4:=⟨⟨_,func4,by kernel_rfl,rfl⟩⟩
def call5:QB prog 5:=⟨⟨_,func5,by kernel_rfl,rfl⟩⟩
def call6:QB prog 6:=⟨⟨_,func6,by kernel_rfl,rfl⟩⟩
def call7:QB prog 7:=⟨⟨_,func7,by kernel_rfl,rfl⟩⟩
def Qfw:QB prog 8:=⟨⟨_,func8,by kernel_rfl,rfl⟩⟩
def call9:QB prog 9:=⟨⟨_,func9,by kernel_rfl,rfl⟩⟩
def call10:QB prog 10:=⟨⟨_,func10,by kernel_rfl,rfl⟩⟩
def call11:QB prog 11:=⟨⟨_,func11,by kernel_rfl,rfl⟩⟩
def call12:QB prog 12:=⟨⟨_,func12,by kernel_rfl,rfl⟩⟩
def call13:QB prog 13:=⟨⟨_,func13,by kernel_rfl,rfl⟩⟩
def Qz0:QB prog 14:=⟨⟨_,func14,by kernel_rfl,rfl⟩⟩
def call15:QB prog 15:=⟨⟨_,func15,by kernel_rfl,rfl⟩⟩
def Qce:QB prog 16:=⟨⟨_,func16,by kernel_rfl,rfl⟩⟩
def Qz2:QB prog 17:=⟨⟨_,func17,by kernel_rfl,rfl⟩⟩
def call18:QB prog 18:=⟨⟨_,func18,by kernel_rfl,rfl⟩⟩
def call19:QB prog 19:=⟨⟨_,func19,by kernel_rfl,rfl⟩⟩
def call20:QB prog 20:=⟨⟨_,func20,by kernel_rfl,rfl⟩⟩
def QBR:QB prog 21:=⟨⟨_,func21,by kernel_rfl,rfl⟩⟩
def Qri:QB prog 22:=⟨⟨_,func22,by kernel_rfl,rfl⟩⟩
def call23:QB prog 23:=⟨⟨_,func23,by kernel_rfl,rfl⟩⟩
def call24:QB prog 24:=⟨⟨_,func24,by kernel_rfl,rfl⟩⟩
def call25:QB prog 25:=⟨⟨_,func25,by kernel_rfl,rfl⟩⟩
def Qz6:QB prog 26:=⟨⟨_,func26,by kernel_rfl,rfl⟩⟩
def Quu:QB prog 27:=⟨⟨_,func27,by kernel_rfl,rfl⟩⟩
def call28:QB prog 28:=⟨⟨_,func28,by kernel_rfl,rfl⟩⟩
def call29:QB prog 29:=⟨⟨_,func29,by kernel_rfl,rfl⟩⟩
def call30:QB prog 30:=⟨⟨_,func30,by kernel_rfl,rfl⟩⟩
def call31:QB prog 31:=⟨⟨_,func31,by kernel_rfl,rfl⟩⟩
def call32:QB prog 32:=⟨⟨_,func32,by kernel_rfl,rfl⟩⟩
def Qux:QB prog 33:=⟨⟨_,func33,by kernel_rfl,rfl⟩⟩
def call34:QB prog 34:=⟨⟨_,func34,by kernel_rfl,rfl⟩⟩
def Qz8:QB prog 35:=⟨⟨_,func35,by kernel_rfl,rfl⟩⟩
def Qz9:QB prog 36:=⟨⟨_,func36,by kernel_rfl,rfl⟩⟩
def Quy:QB prog 37:=⟨⟨_,func37,by kernel_rfl,rfl⟩⟩
def QAa:QB prog 38:=⟨⟨_,func38,by kernel_rfl,rfl⟩⟩
def Quz:QB prog 39:=⟨⟨_,func39,by kernel_rfl,rfl⟩⟩
def call40:QB prog 40:=⟨⟨_,func40,by kernel_rfl,rfl⟩⟩
def Qrj:QB prog 41:=⟨⟨_,func41,by kernel_rfl,rfl⟩⟩
def QAb:QB prog 42:=⟨⟨_,func42,by kernel_rfl,rfl⟩⟩
def call43:QB prog 43:=⟨⟨_,func43,by kernel_rfl,rfl⟩⟩
def QhN:QB prog 44:=⟨⟨_,func44,by kernel_rfl,rfl⟩⟩
def Qrk:QB prog 45:=⟨⟨_,func45,by kernel_rfl,rfl⟩⟩
def Qow:QB prog 46:=⟨⟨_,func46,by kernel_rfl,rfl⟩⟩
def Qox:QB prog 47:=⟨⟨_,func47,by kernel_rfl,rfl⟩⟩
def QuB:QB prog 48:=⟨⟨_,func48,by kernel_rfl,rfl⟩⟩
def QAd:QB prog 49:=⟨⟨_,func49,by kernel_rfl,rfl⟩⟩
def QmD:QB prog 50:=⟨⟨_,func50,by kernel_rfl,rfl⟩⟩
def call51:QB prog 51:=⟨⟨_,func51,by kernel_rfl,rfl⟩⟩
def call52:QB prog 52:=⟨⟨_,func52,by kernel_rfl,rfl⟩⟩
def call53:QB prog 53:=⟨⟨_,func53,by kernel_rfl,rfl⟩⟩
def call54:QB prog 54:=⟨⟨_,func54,by kernel_rfl,rfl⟩⟩
def call55:QB prog 55:=⟨⟨_,func55,by kernel_rfl,rfl⟩⟩
def QuD:QB prog 56:=⟨⟨_,func56,by kernel_rfl,rfl⟩⟩
def Qoy:QB prog 57:=⟨⟨_,func57,by kernel_rfl,rfl⟩⟩
def call58:QB prog 58:=⟨⟨_,func58,by kernel_rfl,rfl⟩⟩
def call59:QB prog 59:=⟨⟨_,func59,by kernel_rfl,rfl⟩⟩
def call60:QB prog 60:=⟨⟨_,func60,by kernel_rfl,rfl⟩⟩
def call61:QB prog 61:=⟨⟨_,func61,by kernel_rfl,rfl⟩⟩
def call62:QB prog 62:=⟨⟨_,func62,by kernel_rfl,rfl⟩⟩
def QuE:QB prog 63:=⟨⟨_,func63,by kernel_rfl,rfl⟩⟩
def QAi:QB prog 64:=⟨⟨_,func64,by kernel_rfl,rfl⟩⟩
def QAj:QB prog 65:=⟨⟨_,func65,by kernel_rfl,rfl⟩⟩
def QuF:QB prog 66:=⟨⟨_,func66,by kernel_rfl,rfl⟩⟩
def QuG:QB prog 67:=⟨⟨_,func67,by kernel_rfl,rfl⟩⟩
def QAk:QB prog 68:=⟨⟨_,func68,by kernel_rfl,rfl⟩⟩
def QAl:QB prog 69:=⟨⟨_,func69,by kernel_rfl,rfl⟩⟩
def QAm:QB prog 70:=⟨⟨_,func70,by kernel_rfl,rfl⟩⟩
def call71:QB prog 71:=⟨⟨_,func71,by kernel_rfl,rfl⟩⟩
def call72:QB prog 72:=⟨⟨_,func72,by kernel_rfl,rfl⟩⟩
def QAp:QB prog 73:=⟨⟨_,func73,by kernel_rfl,rfl⟩⟩
def call74:QB prog 74:=⟨⟨_,func74,by kernel_rfl,rfl⟩⟩
def call75:QB prog 75:=⟨⟨_,func75,by kernel_rfl,rfl⟩⟩
def call76:QB prog 76:=⟨⟨_,func76,by kernel_rfl,rfl⟩⟩
def call77:QB prog 77:=⟨⟨_,func77,by kernel_rfl,rfl⟩⟩
def call78:QB prog 78:=⟨⟨_,func78,by kernel_rfl,rfl⟩⟩
def call79:QB prog 79:=⟨⟨_,func79,by kernel_rfl,rfl⟩⟩
def call80:QB prog 80:=⟨⟨_,func80,by kernel_rfl,rfl⟩⟩
def call81:QB prog 81:=⟨⟨_,func81,by kernel_rfl,rfl⟩⟩
def call82:QB prog 82:=⟨⟨_,func82,by kernel_rfl,rfl⟩⟩
def Qoz:QB prog 83:=⟨⟨_,func83,by kernel_rfl,rfl⟩⟩
def call84:QB prog 84:=⟨⟨_,func84,by kernel_rfl,rfl⟩⟩
def call85:QB prog 85:=⟨⟨_,func85,by kernel_rfl,rfl⟩⟩
def QAq:QB prog 86:=⟨⟨_,func86,by kernel_rfl,rfl⟩⟩
def QAr:QB prog 87:=⟨⟨_,func87,by kernel_rfl,rfl⟩⟩
def Qrl:QB prog 88:=⟨⟨_,func88,by kernel_rfl,rfl⟩⟩
def QAs:QB prog 89:=⟨⟨_,func89,by kernel_rfl,rfl⟩⟩
def call90:QB prog 90:=⟨⟨_,func90,by kernel_rfl,rfl⟩⟩
def call91:QB prog 91:=⟨⟨_,func91,by kernel_rfl,rfl⟩⟩
def QoA:QB prog 92:=⟨⟨_,func92,by kernel_rfl,rfl⟩⟩
def QAv:QB prog 93:=⟨⟨_,func93,by kernel_rfl,rfl⟩⟩
def Qrm:QB prog 94:=⟨⟨_,func94,by kernel_rfl,rfl⟩⟩
def QoB:QB prog 95:=⟨⟨_,func95,by kernel_rfl,rfl⟩⟩
def QAw:QB prog 96:=⟨⟨_,func96,by kernel_rfl,rfl⟩⟩
def QAx:QB prog 97:=⟨⟨_,func97,by kernel_rfl,rfl⟩⟩
def call98:QB prog 98:=⟨⟨_,func98,by kernel_rfl,rfl⟩⟩
def call99:QB prog 99:=⟨⟨_,func99,by kernel_rfl,rfl⟩⟩
def QAO:QB prog 100:=⟨⟨_,func100,by kernel_rfl,rfl⟩⟩
def QAP:QB prog 101:=⟨⟨_,func101,by kernel_rfl,rfl⟩⟩
def QAQ:QB prog 102:=⟨⟨_,func102,by kernel_rfl,rfl⟩⟩
def QAR:QB prog 103:=⟨⟨_,func103,by kernel_rfl,rfl⟩⟩
def QAS:QB prog 104:=⟨⟨_,func104,by kernel_rfl,rfl⟩⟩
def QAT:QB prog 105:=⟨⟨_,func105,by kernel_rfl,rfl⟩⟩
def QAU:QB prog 106:=⟨⟨_,func106,by kernel_rfl,rfl⟩⟩
def QAV:QB prog 107:=⟨⟨_,func107,by kernel_rfl,rfl⟩⟩
def QAW:QB prog 108:=⟨⟨_,func108,by kernel_rfl,rfl⟩⟩
def QAX:QB prog 109:=⟨⟨_,func109,by kernel_rfl,rfl⟩⟩
def QAY:QB prog 110:=⟨⟨_,func110,by kernel_rfl,rfl⟩⟩
def QAZ:QB prog 111:=⟨⟨_,func111,by kernel_rfl,rfl⟩⟩
def QA0:QB prog 112:=⟨⟨_,func112,by kernel_rfl,rfl⟩⟩
def QA1:QB prog 113:=⟨⟨_,func113,by kernel_rfl,rfl⟩⟩
def QA2:QB prog 114:=⟨⟨_,func114,by kernel_rfl,rfl⟩⟩
def QA3:QB prog 115:=⟨⟨_,func115,by kernel_rfl,rfl⟩⟩
def QA4:QB prog 116:=⟨⟨_,func116,by kernel_rfl,rfl⟩⟩
def Qxq:QB prog 117:=⟨⟨_,func117,by kernel_rfl,rfl⟩⟩
def QA5:QB prog 118:=⟨⟨_,func118,by kernel_rfl,rfl⟩⟩
def Qsw:QB prog 119:=⟨⟨_,func119,by kernel_rfl,rfl⟩⟩
def QA6:QB prog 120:=⟨⟨_,func120,by kernel_rfl,rfl⟩⟩
def QA7:QB prog 121:=⟨⟨_,func121,by kernel_rfl,rfl⟩⟩
def Qpf:QB prog 122:=⟨⟨_,func122,by kernel_rfl,rfl⟩⟩
def Qxr:QB prog 123:=⟨⟨_,func123,by kernel_rfl,rfl⟩⟩
def Qxs:QB prog 124:=⟨⟨_,func124,by kernel_rfl,rfl⟩⟩
def Qxt:QB prog 125:=⟨⟨_,func125,by kernel_rfl,rfl⟩⟩
def Qxu:QB prog 126:=⟨⟨_,func126,by kernel_rfl,rfl⟩⟩
def Qxv:QB prog 127:=⟨⟨_,func127,by kernel_rfl,rfl⟩⟩
def Qxw:QB prog 128:=⟨⟨_,func128,by kernel_rfl,rfl⟩⟩
def Qsx:QB prog 134:=⟨⟨_,func134,by kernel_rfl,rfl⟩⟩
def QA8:QB prog 135:=⟨⟨_,func135,by kernel_rfl,rfl⟩⟩
def QA9:QB prog 136:=⟨⟨_,func136,by kernel_rfl,rfl⟩⟩
def QBa:QB prog 137:=⟨⟨_,func137,by kernel_rfl,rfl⟩⟩
def QBb:QB prog 138:=⟨⟨_,func138,by kernel_rfl,rfl⟩⟩
def Qsy:QB prog 139:=⟨⟨_,func139,by kernel_rfl,rfl⟩⟩
def QBc:QB prog 140:=⟨⟨_,func140,by kernel_rfl,rfl⟩⟩
def QBd:QB prog 141:=⟨⟨_,func141,by kernel_rfl,rfl⟩⟩
def QBe:QB prog 142:=⟨⟨_,func142,by kernel_rfl,rfl⟩⟩
def QBf:QB prog 143:=⟨⟨_,func143,by kernel_rfl,rfl⟩⟩
def QBg:QB prog 144:=⟨⟨_,func144,by kernel_rfl,rfl⟩⟩
def QBh:QB prog 145:=⟨⟨_,func145,by kernel_rfl,rfl⟩⟩
def QBi:QB prog 146:=⟨⟨_,func146,by kernel_rfl,rfl⟩⟩
def QBj:QB prog 147:=⟨⟨_,func147,by kernel_rfl,rfl⟩⟩
def QBk:QB prog 148:=⟨⟨_,func148,by kernel_rfl,rfl⟩⟩
def QBl:QB prog 149:=⟨⟨_,func149,by kernel_rfl,rfl⟩⟩
def QBm:QB prog 150:=⟨⟨_,func150,by kernel_rfl,rfl⟩⟩
def QBn:QB prog 151:=⟨⟨_,func151,by kernel_rfl,rfl⟩⟩
def Qj1:QB prog 153:=⟨⟨_,func153,by kernel_rfl,rfl⟩⟩
def Qxx:QB prog 154:=⟨⟨_,func154,by kernel_rfl,rfl⟩⟩
def Qsz:QB prog 155:=⟨⟨_,func155,by kernel_rfl,rfl⟩⟩
def Qxy:QB prog 157:=⟨⟨_,func157,by kernel_rfl,rfl⟩⟩
def Qxz:QB prog 158:=⟨⟨_,func158,by kernel_rfl,rfl⟩⟩
def QxA:QB prog 159:=⟨⟨_,func159,by kernel_rfl,rfl⟩⟩
def QBo:QB prog 166:=⟨⟨_,func166,by kernel_rfl,rfl⟩⟩
def QxB:QB prog 167:=⟨⟨_,func167,by kernel_rfl,rfl⟩⟩
def QxC:QB prog 168:=⟨⟨_,func168,by kernel_rfl,rfl⟩⟩
def QBp:QB prog 169:=⟨⟨_,func169,by kernel_rfl,rfl⟩⟩
def QBq:QB prog 170:=⟨⟨_,func170,by kernel_rfl,rfl⟩⟩
def QBr:QB prog 171:=⟨⟨_,func171,by kernel_rfl,rfl⟩⟩
def QBs:QB prog 172:=⟨⟨_,func172,by kernel_rfl,rfl⟩⟩
def QBt:QB prog 173:=⟨⟨_,func173,by kernel_rfl,rfl⟩⟩
def QBu:QB prog 174:=⟨⟨_,func174,by kernel_rfl,rfl⟩⟩
def QBv:QB prog 175:=⟨⟨_,func175,by kernel_rfl,rfl⟩⟩
def QBw:QB prog 176:=⟨⟨_,func176,by kernel_rfl,rfl⟩⟩
def QBx:QB prog 177:=⟨⟨_,func177,by kernel_rfl,rfl⟩⟩
def QBy:QB prog 178:=⟨⟨_,func178,by kernel_rfl,rfl⟩⟩
def QBz:QB prog 182:=⟨⟨_,func182,by kernel_rfl,rfl⟩⟩
def QBA:QB prog 184:=⟨⟨_,func184,by kernel_rfl,rfl⟩⟩
def QBB:QB prog 185:=⟨⟨_,func185,by kernel_rfl,rfl⟩⟩
def QBC:QB prog 186:=⟨⟨_,func186,by kernel_rfl,rfl⟩⟩
def QBD:QB prog 187:=⟨⟨_,func187,by kernel_rfl,rfl⟩⟩
def QBE:QB prog 188:=⟨⟨_,func188,by kernel_rfl,rfl⟩⟩
def QBF:QB prog 189:=⟨⟨_,func189,by kernel_rfl,rfl⟩⟩
def QBG:QB prog 219:=⟨⟨_,func219,by kernel_rfl,rfl⟩⟩
def QxD:QB prog 222:=⟨⟨_,func222,by kernel_rfl,rfl⟩⟩
def QxE:QB prog 225:=⟨⟨_,func225,by kernel_rfl,rfl⟩⟩
def QxF:QB prog 226:=⟨⟨_,func226,by kernel_rfl,rfl⟩⟩
def QxG:QB prog 229:=⟨⟨_,func229,by kernel_rfl,rfl⟩⟩
def QxH:QB prog 231:=⟨⟨_,func231,by kernel_rfl,rfl⟩⟩
def QxI:QB prog 232:=⟨⟨_,func232,by kernel_rfl,rfl⟩⟩
def QxJ:QB prog 233:=⟨⟨_,func233,by kernel_rfl,rfl⟩⟩
def QxK:QB prog 234:=⟨⟨_,func234,by kernel_rfl,rfl⟩⟩
def QxL:QB prog 235:=⟨⟨_,func235,by kernel_rfl,rfl⟩⟩
def QxM:QB prog 236:=⟨⟨_,func236,by kernel_rfl,rfl⟩⟩
def QxN:QB prog 238:=⟨⟨_,func238,by kernel_rfl,rfl⟩⟩
def QxO:QB prog 239:=⟨⟨_,func239,by kernel_rfl,rfl⟩⟩
def QxP:QB prog 242:=⟨⟨_,func242,by kernel_rfl,rfl⟩⟩
def QxQ:QB prog 243:=⟨⟨_,func243,by kernel_rfl,rfl⟩⟩
def Qlq:QB prog 244:=⟨⟨_,func244,by kernel_rfl,rfl⟩⟩
def QxR:QB prog 245:=⟨⟨_,func245,by kernel_rfl,rfl⟩⟩
def QxS:QB prog 247:=⟨⟨_,func247,by kernel_rfl,rfl⟩⟩
def QxT:QB prog 248:=⟨⟨_,func248,by kernel_rfl,rfl⟩⟩
def QxU:QB prog 249:=⟨⟨_,func249,by kernel_rfl,rfl⟩⟩
def QxV:QB prog 250:=⟨⟨_,func250,by kernel_rfl,rfl⟩⟩
def QxW:QB prog 251:=⟨⟨_,func251,by kernel_rfl,rfl⟩⟩
def QBH:QB prog 252:=⟨⟨_,func252,by kernel_rfl,rfl⟩⟩
def QxX:QB prog 253:=⟨⟨_,func253,by kernel_rfl,rfl⟩⟩
def QxY:QB prog 254:=⟨⟨_,func254,by kernel_rfl,rfl⟩⟩
def QBI:QB prog 255:=⟨⟨_,func255,by kernel_rfl,rfl⟩⟩
def QxZ:QB prog 256:=⟨⟨_,func256,by kernel_rfl,rfl⟩⟩
def val59 (_:Qr):Value:=.nilFunc
def Qqx (x:Qn):Value:=.agg #[.int .i64 x.Op,.string (sB x.Xh),.string (sB x.Field),.string (sB x.Xi),.int .i64 x.N,.int .i64 x.M]
def Qwf {x:Qn}:∀F w v,(tv (Qqx x)).ok F w v->(Qv.ty x).ok F w v:=λF w v h=>⟨[.int .i64 x.Op,.string (sB x.Xh),.string (sB x.Field),.string (sB x.Xi),.int .i64 x.N,.int .i64 x.M],h,.cons rfl (.cons rfl (.cons rfl (.cons rfl (.cons rfl (.cons rfl .nil)))))⟩
def Qwg {x:Qn}:∀F w v,(Qv.ty x).ok F w v->(tv (Qqx x)).ok F w v:=λF w v ⟨us,h,hc⟩=>by rw[h];exact Qod hc [.int .i64 x.Op,.string (sB x.Xh),.string (sB x.Field),.string (sB x.Xi),.int .i64 x.N,.int .i64 x.M] rfl
@[reducible] noncomputable def dF54 : DRep Qh := dFld Qp 3 (λx => x.Xb) (dOwn Qe 70) rfl (λ_ => rfl)
theorem Qnk:TOk prog 174 rVal 8 (.pointer none):=⟨⟨_,underlying174,rfl⟩,by kernel_rfl,rfl⟩
@[reducible] noncomputable def dW70 : DRep Qd := Qqr Qe 6 7 (λx => x.Words) (λx => x.Xf) (dOwn rS 9) (dOwn rI 3) rfl rfl (λ_ => rfl) (λ_ => rfl)
@[reducible] noncomputable def oW70 : DRep Qd := Qqr Qe 6 7 (λx => x.Words) (λx => x.Xf) (dOpt (dOwn rS 9)) (dOpt (dOwn rI 3)) rfl rfl (λ_ => rfl) (λ_ => rfl)
@[reducible] noncomputable def dK67 : DRep Qh := dFld Qp 3 (λx => x.Xb) (dRow dW70 70) rfl (λ_ => rfl)
@[reducible] noncomputable def oK67 : DRep Qh := dFld Qp 3 (λx => x.Xb) (dOpt (dRow dW70 70)) rfl (λ_ => rfl)
@[reducible] noncomputable def dL91 : DRep Qr := Qqr Qo 1 2 (λx => x.Xe) (λx => x.Xg) (dOwn rS 9) (dOwn Qaz 60) rfl rfl (λ_ => rfl) (λ_ => rfl)
@[reducible] noncomputable def oL91 : DRep Qr := Qqr Qo 1 2 (λx => x.Xe) (λx => x.Xg) (dOpt (dOwn rS 9)) (dOpt (dOwn Qaz 60)) rfl rfl (λ_ => rfl) (λ_ => rfl)
section
variable {M:Fr} {w0:World} {n:Nat} {Γ:List (Nat×Ty)} {As:List Atom} {a:Act} {w:World}
def _root_.Go.Sim.St.t1_0 {x0:Nat×Ty} (h:St M w0 n Γ As a w) (is:List Nat) (p:QbD Γ is=[x0]:=by exact rfl) (q:As=[]:=by exact rfl):St M w0 n [x0] [] a w:=h.to is _ _ p q
def _root_.Go.Sim.St.t1_1 {x0:Nat×Ty} {y0:Atom} (h:St M w0 n Γ As a w) (is:List Nat) (p:QbD Γ is=[x0]:=by exact rfl) (q:As=[y0]:=by exact rfl):St M w0 n [x0] [y0] a w:=h.to is _ _ p q
def _root_.Go.Sim.St.t2_0 {x0 x1:Nat×Ty} (h:St M w0 n Γ As a w) (is:List Nat) (p:QbD Γ is=[x0,x1]:=by exact rfl) (q:As=[]:=by exact rfl):St M w0 n [x0,x1] [] a w:=h.to is _ _ p q
def _root_.Go.Sim.St.t2_1 {x0 x1:Nat×Ty} {y0:Atom} (h:St M w0 n Γ As a w) (is:List Nat) (p:QbD Γ is=[x0,x1]:=by exact rfl) (q:As=[y0]:=by exact rfl):St M w0 n [x0,x1] [y0] a w:=h.to is _ _ p q
def _root_.Go.Sim.St.t2_2 {x0 x1:Nat×Ty} {y0 y1:Atom} (h:St M w0 n Γ As a w) (is:List Nat) (p:QbD Γ is=[x0,x1]:=by exact rfl) (q:As=[y0,y1]:=by exact rfl):St M w0 n [x0,x1] [y0,y1] a w:=h.to is _ _ p q
def _root_.Go.Sim.St.t2_3 {x0 x1:Nat×Ty} {y0 y1 y2:Atom} (h:St M w0 n Γ As a w) (is:List Nat) (p:QbD Γ is=[x0,x1]:=by exact rfl) (q:As=[y0,y1,y2]:=by exact rfl):St M w0 n [x0,x1] [y0,y1,y2] a w:=h.to is _ _ p q
def _root_.Go.Sim.St.t3_1 {x0 x1 x2:Nat×Ty} {y0:Atom} (h:St M w0 n Γ As a w) (is:List Nat) (p:QbD Γ is=[x0,x1,x2]:=by exact rfl) (q:As=[y0]:=by exact rfl):St M w0 n [x0,x1,x2] [y0] a w:=h.to is _ _ p q
def _root_.Go.Sim.St.t4_1 {x0 x1 x2 x3:Nat×Ty} {y0:Atom} (h:St M w0 n Γ As a w) (is:List Nat) (p:QbD Γ is=[x0,x1,x2,x3]:=by exact rfl) (q:As=[y0]:=by exact rfl):St M w0 n [x0,x1,x2,x3] [y0] a w:=h.to is _ _ p q
def _root_.Go.Sim.St.t4_3 {x0 x1 x2 x3:Nat×Ty} {y0 y1 y2:Atom} (h:St M w0 n Γ As a w) (is:List Nat) (p:QbD Γ is=[x0,x1,x2,x3]:=by exact rfl) (q:As=[y0,y1,y2]:=by exact rfl):St M w0 n [x0,x1,x2,x3] [y0,y1,y2] a w:=h.to is _ _ p q
def _root_.Go.Sim.St.t5_2 {x0 x1 x2 x3 x4:Nat×Ty} {y0 y1:Atom} (h:St M w0 n Γ As a w) (is:List Nat) (p:QbD Γ is=[x0,x1,x2,x3,x4]:=by exact rfl) (q:As=[y0,y1]:=by exact rfl):St M w0 n [x0,x1,x2,x3,x4] [y0,y1] a w:=h.to is _ _ p q
def _root_.Go.Sim.St.t6_2 {x0 x1 x2 x3 x4 x5:Nat×Ty} {y0 y1:Atom} (h:St M w0 n Γ As a w) (is:List Nat) (p:QbD Γ is=[x0,x1,x2,x3,x4,x5]:=by exact rfl) (q:As=[y0,y1]:=by exact rfl):St M w0 n [x0,x1,x2,x3,x4,x5] [y0,y1] a w:=h.to is _ _ p q
def _root_.Go.Sim.St.t6_3 {x0 x1 x2 x3 x4 x5:Nat×Ty} {y0 y1 y2:Atom} (h:St M w0 n Γ As a w) (is:List Nat) (p:QbD Γ is=[x0,x1,x2,x3,x4,x5]:=by exact rfl) (q:As=[y0,y1,y2]:=by exact rfl):St M w0 n [x0,x1,x2,x3,x4,x5] [y0,y1,y2] a w:=h.to is _ _ p q
def _root_.Go.Sim.St.t6_5 {x0 x1 x2 x3 x4 x5:Nat×Ty} {y0 y1 y2 y3 y4:Atom} (h:St M w0 n Γ As a w) (is:List Nat) (p:QbD Γ is=[x0,x1,x2,x3,x4,x5]:=by exact rfl) (q:As=[y0,y1,y2,y3,y4]:=by exact rfl):St M w0 n [x0,x1,x2,x3,x4,x5] [y0,y1,y2,y3,y4] a w:=h.to is _ _ p q
def _root_.Go.Sim.St.t7_4 {x0 x1 x2 x3 x4 x5 x6:Nat×Ty} {y0 y1 y2 y3:Atom} (h:St M w0 n Γ As a w) (is:List Nat) (p:QbD Γ is=[x0,x1,x2,x3,x4,x5,x6]:=by exact rfl) (q:As=[y0,y1,y2,y3]:=by exact rfl):St M w0 n [x0,x1,x2,x3,x4,x5,x6] [y0,y1,y2,y3] a w:=h.to is _ _ p q
def _root_.Go.Sim.St.t8_4 {x0 x1 x2 x3 x4 x5 x6 x7:Nat×Ty} {y0 y1 y2 y3:Atom} (h:St M w0 n Γ As a w) (is:List Nat) (p:QbD Γ is=[x0,x1,x2,x3,x4,x5,x6,x7]:=by exact rfl) (q:As=[y0,y1,y2,y3]:=by exact rfl):St M w0 n [x0,x1,x2,x3,x4,x5,x6,x7] [y0,y1,y2,y3] a w:=h.to is _ _ p q
def _root_.Go.Sim.St.t8_5 {x0 x1 x2 x3 x4 x5 x6 x7:Nat×Ty} {y0 y1 y2 y3 y4:Atom} (h:St M w0 n Γ As a w) (is:List Nat) (p:QbD Γ is=[x0,x1,x2,x3,x4,x5,x6,x7]:=by exact rfl) (q:As=[y0,y1,y2,y3,y4]:=by exact rfl):St M w0 n [x0,x1,x2,x3,x4,x5,x6,x7] [y0,y1,y2,y3,y4] a w:=h.to is _ _ p q
def _root_.Go.Sim.St.t9_5 {x0 x1 x2 x3 x4 x5 x6 x7 x8:Nat×Ty} {y0 y1 y2 y3 y4:Atom} (h:St M w0 n Γ As a w) (is:List Nat) (p:QbD Γ is=[x0,x1,x2,x3,x4,x5,x6,x7,x8]:=by exact rfl) (q:As=[y0,y1,y2,y3,y4]:=by exact rfl):St M w0 n [x0,x1,x2,x3,x4,x5,x6,x7,x8] [y0,y1,y2,y3,y4] a w:=h.to is _ _ p q
def _root_.Go.Sim.St.t10_5 {x0 x1 x2 x3 x4 x5 x6 x7 x8 x9:Nat×Ty} {y0 y1 y2 y3 y4:Atom} (h:St M w0 n Γ As a w) (is:List Nat) (p:QbD Γ is=[x0,x1,x2,x3,x4,x5,x6,x7,x8,x9]:=by exact rfl) (q:As=[y0,y1,y2,y3,y4]:=by exact rfl):St M w0 n [x0,x1,x2,x3,x4,x5,x6,x7,x8,x9] [y0,y1,y2,y3,y4] a w:=h.to is _ _ p q
def _root_.Go.Sim.St.t12_5 {x0 x1 x2 x3 x4 x5 x6 x7 x8 x9 x10 x11:Nat×Ty} {y0 y1 y2 y3 y4:Atom} (h:St M w0 n Γ As a w) (is:List Nat) (p:QbD Γ is=[x0,x1,x2,x3,x4,x5,x6,x7,x8,x9,x10,x11]:=by exact rfl) (q:As=[y0,y1,y2,y3,y4]:=by exact rfl):St M w0 n [x0,x1,x2,x3,x4,x5,x6,x7,x8,x9,x10,x11] [y0,y1,y2,y3,y4] a w:=h.to is _ _ p q
end
abbrev zz0:Qd:=(Qd.mk ([]:Str) ([]:Str) ([]:Str) (0:Int) (0:Int) (0:Int) ([]:(List Str)) ([]:(List Int)))
abbrev zz1:Qh:=(Qh.mk ([]:Str) (0:Int) (0:Int) ([]:(List Qd)))
abbrev zz2:Qr:=(Qr.mk ([]:Str) ([]:(List Str)) ([]:(List Qac)))
abbrev zz3:Qm:=(Qm.mk ([]:Str) ([]:Str) ([]:Str) ([]:Str) (0:Int))
abbrev zz4:Qa:=(Qa.mk (0:Int) ([]:(List Qh)) ([]:(List Qr)) ([]:(List Qm)))
abbrev zz5:Qn:=(Qn.mk (0:Int) ([]:Str) ([]:Str) ([]:Str) (0:Int) (0:Int))
abbrev zz6:Qj:=(Qj.mk (0:Int) (0:Int) (0:Int))
abbrev zz7:Qt:=(Qt.mk (0:Int) ([]:Str) ([]:Str) ([]:Str) (0:Int) (0:Int))
abbrev ud22:=underlying22
abbrev ud23:=underlying23
abbrev ud24:=underlying24
abbrev Qqz:=underlying240
abbrev ud25:=underlying25
abbrev ud27:=underlying27
abbrev ud29:=underlying29
abbrev ud3:=underlying3
abbrev ud33:=underlying33
abbrev ud39:=underlying39
abbrev ud5:=underlying5
abbrev ud52:=underlying52
abbrev ud56:=underlying56
abbrev ud57:=underlying57
abbrev ud70:=underlying70
abbrev ud81:=underlying81
abbrev ud84:=underlying84
abbrev ud87:=underlying87
abbrev ud9:=underlying9

/- Closed facts on the types and functions of the translation. No condition. -/
import Derived.Test.YtmhcoofnnmiejaaGreatDoorSimMg
import Derived.Test.YtmhcoofnnmiejaaGreatDoorRows
set_option linter.all false
open Go.Proofs.Tryz
namespace Go.Proofs.YtmhcoofnnmiejaaGreatDoor
open Go.Sim
abbrev zS:FV:=⟨_,rS,([]:Str)⟩
abbrev zI:FV:=⟨_,rI,(0:Int)⟩
abbrev zL {α:Type} (R:Rep α):FV:=⟨_,rSl R,[]⟩
section
variable {t:TypeId} {α:Type} {R:Rep α} {n:Nat} {z:Value}
def tk {d:TypeDesc} (h:prog.underlying t=some d) (ha:Qna d=R.agg:=by rfl) (i:(prog.info? t).map (λi=>(i.zero,i.size,i.bytes))=some (some z,R.n,n):=by kernel_rfl) (k:z.cells.size=R.n:=by rfl):TOk prog t R n z:=⟨⟨_,h,ha⟩,i,k⟩
def fl {s f off:Nat} {b:Array Field} {fd:Field} (hu:prog.underlying s=some (.struct b)) (hz:TOk prog t R n z) (hf:b[f]?=some fd:=by rfl) (ht:fd.type=t:=by rfl) (c:fd.offset=off:=by rfl) (d:R.n≠0:=by decide):Qz prog s f off:=.mk hu hf c (ht▸hz) d
def cl {f : FuncId} {b : Func} (h : Tryz.prog.funcs[f]? = some b) (k : (b.name == "runtime.NumGoroutine") = false := by kernel_rfl) (e : b.body.isNone = false := by rfl) : Qj Tryz.prog f := ⟨⟨_, h, k, e⟩⟩
abbrev ZC (R:Rep α) (a:α) (z:Value):Prop:=∀F w,QW (R.cs a) F w z.cells.toList
abbrev ZO (R:Rep α) (a:α) (z:Value):Prop:=∀F w,(R.ty a).ok F w z
abbrev ZV (t:TypeId) (z:Value):Prop:=(prog.info? t).bind (·.zero)=some z
def zvk (h:(prog.info? t).bind (·.zero)=some z:=by kernel_rfl):ZV t z:=h
abbrev PL {fs:Array Field} (_:prog.underlying t=some (.struct fs)) (l:Array (Nat×Nat)):Prop:=∀w,((fs.mapM λf=>do pure (f.offset,<-sizeOf f.type):Sem (Array (Nat×Nat)))).run prog w=.ok l w
def zct {l:List Ty} {F:Blk} {w:World} {us:List Value} (h:QW l F w us:=by
  repeat first
    | exact QW.nil
    | refine QW.cons rfl ?_
    | refine QW.cons ⟨none,0,rfl,Nat.le_refl _,λh=>(h rfl).elim⟩ ?_
  fail_if_success apply id):QW l F w us:=h
def blo {bytes:Nat} {Z l:List FV} {u:α} {b:Array Field} {pl:Array (Nat×Nat)} (h:prog.underlying t=some (.struct b)) (hp:PL h pl) (hz:ZV t z) (c:∀F w,QW (fvs Z) F w z.cells.toList) {d:Value} (e:TOk prog t R bytes d) (f:pl.toList=offs 0 Z:=by rfl) (hu:R.cs u=fvs l:=by rfl) (ha:R.agg=true:=by rfl):Bl prog t Z l (R.ty u):=Bl.of ⟨_,_,_,h,hp,hz,c,f⟩ e hu ha
end
section
variable {α:Type}
def onel {l:List Ty} (h:∀T,T∈l->One T:=by
  repeat first
    | exact Qak
    | refine Qt (QZ rfl) ?_
    | refine Qt Qbj ?_
  fail_if_success apply id):∀T,T∈l->One T:=h
end
def mixed:prog.follows .mixedOrders=true:=by kernel_rfl
def mx:prog.follows .mixedOrders=true:=mixed
def QjJ:List (Value×Value):=[(.int .i64 0,.agg #[.func (.func 261) #[] #[]]),(.int .i64 1,.agg #[.func (.func 262) #[] #[]]),(.int .i64 4,.agg #[.func (.func 263) #[] #[]]),(.int .i64 5,.agg #[.func (.func 264) #[] #[]]),(.int .i64 6,.agg #[.func (.func 266) #[] #[]]),(.int .i64 7,.agg #[.func (.func 267) #[] #[]]),(.int .i64 8,.agg #[.func (.func 269) #[] #[]])]
def QxD:Ty:=Qn3 QjJ
def Qwg:List Ty:=[QxD]
def tokM0:TOk prog 244 (rMapC QjJ) 8 (.map none):=⟨⟨_,underlying244,rfl⟩,(by kernel_rfl:(prog.info? 244).map (λi=>(i.zero,i.size,i.bytes))=some (some (.map none),1,8)),rfl⟩
def QlZ:List Str:=[[107,101,121],[114,101,102],[110,117,109],[112,105,99,107],[100,97,121],[115,116,101,112],[115,117,109],[115,104,97,114,101],[99,111,112,121]]
def Qwh:List Ty:=QlZ.flatMap rS.cs
def QsB:List Int:=[1,10,100,1000,10000,100000,1000000,10000000,100000000,1000000000,10000000000,100000000000,1000000000000,10000000000000,100000000000000,1000000000000000,10000000000000000,100000000000000000,1000000000000000000,10000000000000000000]
def Qwi:List Ty:=QsB.flatMap (rInt .u64).cs
def Qwj:List Int:=[0,1,28,2,29,14,24,3,30,22,20,15,25,17,4,8,31,27,13,23,21,19,16,7,26,12,18,6,11,5,10,9]
def tglo3:List Ty:=Qwj.flatMap (rInt .u8).cs
def Qwk:List Int:=[0,1,56,2,57,49,28,3,61,58,42,50,38,29,17,4,62,47,59,36,45,43,51,22,53,39,33,30,24,18,12,5,63,55,48,27,60,41,37,16,46,35,44,21,52,32,23,11,54,26,40,15,34,20,31,10,25,14,19,9,13,8,7,6]
def tglo4:List Ty:=Qwk.flatMap (rInt .u8).cs
abbrev bld:=bldE 287 5
def glo:Atom:=gloA [(0,Qwg),(1,Qwh),(2,Qwi),(3,tglo3),(4,tglo4)]
def QsC:∀k,¬glo.fp k:=λ_ h=>h
def _root_.Go.Sim.OpJ.glo {P:Program} {o:Oper} {Γ:List (Nat×Ty)} {U E:List Atom} {N:Value->List Atom} {T:Value->Ty} (h:OpJ P o Γ U (glo::E) N T):OpJ P o Γ (glo::U) E N T:=OpJ.gloG QsC h
def QC7:Qn2 glo 0 Qwg:=Qqy (by simp)
def QAC:Qnh glo 0 Qwg:=QC7.has
def QC8:Qn2 glo 1 Qwh:=Qqy (by simp)
def QAD:Qnh glo 1 Qwh:=QC8.has
def QC9:Qn2 glo 2 Qwi:=Qqy (by simp)
def tok3:TOk prog 3 rI 8 (.int .i64 0):=tk underlying3
def zok3:ZO rI (0:Int) (.int .i64 0):=λ_ _=>rfl
def tok4:TOk prog 4 Qag 1 (.bool false):=tk underlying4
def zok4:ZO Qag false (.bool false):=λ_ _=>rfl
def tok5:TOk prog 5 (rInt .u8) 1 (.int .u8 0):=tk underlying5
def tok9:TOk prog 9 rS 16 (.string .empty):=tk underlying9
def tok20:TOk prog 20 (rAny 3 9) 16 .nilIface:=tk underlying20
def Qci:TOk prog 22 (rSl rI) 24 (.slice none 0 0):=tk underlying22
def Qr1:TOk prog 64 (rSl rS) 24 (.slice none 0 0):=tk underlying64
structure Qe where
  Xj:Str
  Of:Str
  Up:Str
  Xi:Int
  Lo:Int
  Hi:Int
  Words:(List Str)
  Xf:(List Int)
deriving Inhabited
@[reducible] def Qd : Rep Qe := ⟨λx => ([tv (.string (sB x.Xj)),tv (.string (sB x.Of)),tv (.string (sB x.Up)),ti x.Xi,ti x.Lo,ti x.Hi,tsl rS x.Words,tsl rI x.Xf]),8,true,λ_ => rfl,λ_ => onel,λh => (by cases h)⟩
abbrev zr66:Value:=.agg #[(.string .empty),(.string .empty),(.string .empty),(.int .i64 0),(.int .i64 0),(.int .i64 0),(.slice none 0 0),(.slice none 0 0)]
def QaY:TOk prog 66 Qd 120 zr66:=tk underlying66
abbrev zs66:=(Qe.mk ([]:Str) ([]:Str) ([]:Str) (0:Int) (0:Int) (0:Int) ([]:(List Str)) ([]:(List Int)))
def zc66:ZC Qd zs66 zr66:=λ_ _=>zct
def QjK:ZO Qd zs66 zr66:=λF w=>⟨_,rfl,zc66 F w⟩
def zv66:ZV 66 zr66:=zvk
def pl66:PL underlying66 #[(0,1),(1,1),(2,1),(3,1),(4,1),(5,1),(6,1),(7,1)]:=λ_=>by kernel_rfl
def QAE:(∀F w,QW ([tv (.string (sB ([]:Str))),tv (.string (sB ([]:Str))),tv (.string (sB ([]:Str))),ti (0:Int),ti (0:Int),ti (0:Int),tsl rS ([]:(List Str)),tvs nilV]) F w zr66.cells.toList)/\([tv (.string (sB ([]:Str))),tv (.string (sB ([]:Str))),tv (.string (sB ([]:Str))),ti (0:Int),ti (0:Int),ti (0:Int),tsl rS ([]:(List Str)),tvs nilV]).length=8/\Qd.agg=true/\∃cs,zr66=.agg cs:=⟨λ_ _=>(.cons rfl (.cons rfl (.cons rfl (.cons rfl (.cons rfl (.cons rfl (.cons ⟨none,0,rfl,Nat.le_refl _,λh=>(h rfl).elim⟩ (.cons ⟨rfl,rfl⟩ .nil)))))))),rfl,rfl,_,rfl⟩
def tok37:TOk prog 37 (rSl Qd) 24 (.slice none 0 0):=tk underlying37
structure QA where
  Xj:Str
  Lo:Int
  Hi:Int
  Xb:(List Qe)
deriving Inhabited
@[reducible] def Qq : Rep QA := ⟨λx => ([tv (.string (sB x.Xj)),ti x.Lo,ti x.Hi,tsl Qd x.Xb]),4,true,λ_ => rfl,λ_ => onel,λh => (by cases h)⟩
abbrev zr39:Value:=.agg #[(.string .empty),(.int .i64 0),(.int .i64 0),(.slice none 0 0)]
def Qbn:TOk prog 39 Qq 56 zr39:=tk underlying39
abbrev zs39:=(QA.mk ([]:Str) (0:Int) (0:Int) ([]:(List Qe)))
def zc39:ZC Qq zs39 zr39:=λ_ _=>zct
def zok39:ZO Qq zs39 zr39:=λF w=>⟨_,rfl,zc39 F w⟩
def zv39:ZV 39 zr39:=zvk
def pl39:PL underlying39 #[(0,1),(1,1),(2,1),(3,1)]:=λ_=>by kernel_rfl
def QAF:(∀F w,QW ([tv (.string (sB ([]:Str))),ti (0:Int),ti (0:Int),tvs nilV]) F w zr39.cells.toList)/\([tv (.string (sB ([]:Str))),ti (0:Int),ti (0:Int),tvs nilV]).length=4/\Qq.agg=true/\∃cs,zr39=.agg cs:=⟨λ_ _=>(.cons rfl (.cons rfl (.cons rfl (.cons ⟨rfl,rfl⟩ .nil)))),rfl,rfl,_,rfl⟩
def Qfd:TOk prog 23 (rSl Qq) 24 (.slice none 0 0):=tk underlying23
structure Qar where
  a0:Int
  a1:Int
deriving Inhabited
@[reducible] def QaR : Rep Qar := ⟨λx => ([ti x.a0,ti x.a1]),2,true,λ_ => rfl,λ_ => onel,λh => (by cases h)⟩
abbrev zr87:Value:=.agg #[(.int .i64 0),(.int .i64 0)]
def tok87:TOk prog 87 QaR 16 zr87:=tk underlying87
abbrev zs87:=(Qar.mk (0:Int) (0:Int))
def zc87:ZC QaR zs87 zr87:=λ_ _=>zct
def zok87:ZO QaR zs87 zr87:=λF w=>⟨_,rfl,zc87 F w⟩
def tok84:TOk prog 84 (rSl QaR) 24 (.slice none 0 0):=tk underlying84
structure Qm where
  Xj:Str
  Xe:(List Str)
  Xg:(List Qar)
deriving Inhabited
@[reducible] def Qs : Rep Qm := ⟨λx => ([tv (.string (sB x.Xj)),tsl rS x.Xe,tsl QaR x.Xg]),3,true,λ_ => rfl,λ_ => onel,λh => (by cases h)⟩
abbrev zr86:Value:=.agg #[(.string .empty),(.slice none 0 0),(.slice none 0 0)]
def Qhh:TOk prog 86 Qs 64 zr86:=tk underlying86
abbrev zs86:=(Qm.mk ([]:Str) ([]:(List Str)) ([]:(List Qar)))
def zc86:ZC Qs zs86 zr86:=λ_ _=>zct
def Qr2:ZO Qs zs86 zr86:=λF w=>⟨_,rfl,zc86 F w⟩
def zv86:ZV 86 zr86:=zvk
def pl86:PL underlying86 #[(0,1),(1,1),(2,1)]:=λ_=>by kernel_rfl
def QAG:(∀F w,QW ([tv (.string (sB ([]:Str))),tsl rS ([]:(List Str)),tvs nilV]) F w zr86.cells.toList)/\([tv (.string (sB ([]:Str))),tsl rS ([]:(List Str)),tvs nilV]).length=3/\Qs.agg=true/\∃cs,zr86=.agg cs:=⟨λ_ _=>(.cons rfl (.cons ⟨none,0,rfl,Nat.le_refl _,λh=>(h rfl).elim⟩ (.cons ⟨rfl,rfl⟩ .nil))),rfl,rfl,_,rfl⟩
def Qmt:TOk prog 24 (rSl Qs) 24 (.slice none 0 0):=tk underlying24
structure QL where
  Xj:Str
  Xi:Str
  A:Str
  B:Str
  N:Int
deriving Inhabited
@[reducible] def QV : Rep QL := ⟨λx => ([tv (.string (sB x.Xj)),tv (.string (sB x.Xi)),tv (.string (sB x.A)),tv (.string (sB x.B)),ti x.N]),5,true,λ_ => rfl,λ_ => onel,λh => (by cases h)⟩
abbrev zr89:Value:=.agg #[(.string .empty),(.string .empty),(.string .empty),(.string .empty),(.int .i64 0)]
def tok89:TOk prog 89 QV 72 zr89:=tk underlying89
abbrev zs89:=(QL.mk ([]:Str) ([]:Str) ([]:Str) ([]:Str) (0:Int))
def zc89:ZC QV zs89 zr89:=λ_ _=>zct
def zok89:ZO QV zs89 zr89:=λF w=>⟨_,rfl,zc89 F w⟩
def zv89:ZV 89 zr89:=zvk
def pl89:PL underlying89 #[(0,1),(1,1),(2,1),(3,1),(4,1)]:=λ_=>by kernel_rfl
def tok25:TOk prog 25 (rSl QV) 24 (.slice none 0 0):=tk underlying25
structure Qc where
  Version:Int
  Xa:(List QA)
  Xd:(List Qm)
  Xc:(List QL)
deriving Inhabited
@[reducible] def Qb : Rep Qc := ⟨λx => ([ti x.Version,tsl Qq x.Xa,tsl Qs x.Xd,tsl QV x.Xc]),4,true,λ_ => rfl,λ_ => onel,λh => (by cases h)⟩
abbrev zr27:Value:=.agg #[(.int .i64 0),(.slice none 0 0),(.slice none 0 0),(.slice none 0 0)]
def QcK:TOk prog 27 Qb 80 zr27:=tk underlying27
abbrev zs27:=(Qc.mk (0:Int) ([]:(List QA)) ([]:(List Qm)) ([]:(List QL)))
def zc27:ZC Qb zs27 zr27:=λ_ _=>zct
def zok27:ZO Qb zs27 zr27:=λF w=>⟨_,rfl,zc27 F w⟩
def zv27:ZV 27 zr27:=zvk
def pl27:PL underlying27 #[(0,1),(1,1),(2,1),(3,1)]:=λ_=>by kernel_rfl
def QsD:(∀F w,QW ([ti (0:Int),tvs nilV,tvs nilV,tvs nilV]) F w zr27.cells.toList)/\([ti (0:Int),tvs nilV,tvs nilV,tvs nilV]).length=4/\Qb.agg=true/\∃cs,zr27=.agg cs:=⟨λ_ _=>(.cons rfl (.cons ⟨rfl,rfl⟩ (.cons ⟨rfl,rfl⟩ (.cons ⟨rfl,rfl⟩ .nil)))),rfl,rfl,_,rfl⟩
def QbR:TOk prog 40 (rSl (rSl rI)) 24 (.slice none 0 0):=tk underlying40
def zok40:ZO (rSl (rSl rI)) ([]:(List (List Int))) (.slice none 0 0):=λ_ _=>⟨none,0,rfl,Nat.le_refl _,λh=>(h rfl).elim⟩
def QpG:TOk prog 29 (rSl (rSl (rSl rI))) 24 (.slice none 0 0):=tk underlying29
def QjL:TOk prog 33 rI 8 (.int .i64 0):=tk underlying33
structure QH where
  A:Int
  B:Int
  N:Int
deriving Inhabited
@[reducible] def Qah : Rep QH := ⟨λx => ([ti x.A,ti x.B,ti x.N]),3,true,λ_ => rfl,λ_ => onel,λh => (by cases h)⟩
abbrev zr44:Value:=.agg #[(.int .i64 0),(.int .i64 0),(.int .i64 0)]
def QiY:TOk prog 44 Qah 24 zr44:=tk underlying44
abbrev zs44:=(QH.mk (0:Int) (0:Int) (0:Int))
def zc44:ZC Qah zs44 zr44:=λ_ _=>zct
def zok44:ZO Qah zs44 zr44:=λF w=>⟨_,rfl,zc44 F w⟩
def zv44:ZV 44 zr44:=zvk
def pl44:PL underlying44 #[(0,1),(1,1),(2,1)]:=λ_=>by kernel_rfl
structure Qa1 where
  Flow:(List Int)
  Level:(List Int)
deriving Inhabited
@[reducible] def Qad : Rep Qa1 := ⟨λx => ([tsl rI x.Flow,tsl rI x.Level]),2,true,λ_ => rfl,λ_ => onel,λh => (by cases h)⟩
abbrev zr54:Value:=.agg #[(.slice none 0 0),(.slice none 0 0)]
def tok54:TOk prog 54 Qad 48 zr54:=tk underlying54
abbrev zs54:=(Qa1.mk ([]:(List Int)) ([]:(List Int)))
def zc54:ZC Qad zs54 zr54:=λ_ _=>zct
def zok54:ZO Qad zs54 zr54:=λF w=>⟨_,rfl,zc54 F w⟩
def zv54:ZV 54 zr54:=zvk
def pl54:PL underlying54 #[(0,1),(1,1)]:=λ_=>by kernel_rfl
structure Q2 where
  x:Qc
  old:(List (List (List Int)))
  w:(List (List (List Int)))
deriving Inhabited
@[reducible] def Qd2 : Rep Q2 := ⟨λx => (Qb.cs x.x ++ [tsl (rSl (rSl rI)) x.old,tsl (rSl (rSl rI)) x.w]),6,true,λ_ => rfl,λ_ => (QkB (QkA Qb) (Qt Qbj (Qt Qbj Qak))),λh => (by cases h)⟩
abbrev zr62:Value:=.agg #[(.int .i64 0),(.slice none 0 0),(.slice none 0 0),(.slice none 0 0),(.slice none 0 0),(.slice none 0 0)]
def tok62:TOk prog 62 Qd2 128 zr62:=tk underlying62
abbrev zs62:=(Q2.mk (Qc.mk (0:Int) ([]:(List QA)) ([]:(List Qm)) ([]:(List QL))) ([]:(List (List (List Int)))) ([]:(List (List (List Int)))))
def zc62:ZC Qd2 zs62 zr62:=λ_ _=>zct
def zok62:ZO Qd2 zs62 zr62:=λF w=>⟨_,rfl,zc62 F w⟩
def zv62:ZV 62 zr62:=zvk
def pl62:PL underlying62 #[(0,4),(4,1),(5,1)]:=λ_=>by kernel_rfl
abbrev zr73:Value:=.agg #[(.int .i64 0),(.int .i64 0),(.int .i64 0)]
def tok73:TOk prog 73 Qah 24 zr73:=tk underlying73
abbrev zs73:=(QH.mk (0:Int) (0:Int) (0:Int))
def zc73:ZC Qah zs73 zr73:=λ_ _=>zct
def zok73:ZO Qah zs73 zr73:=λF w=>⟨_,rfl,zc73 F w⟩
def zv73:ZV 73 zr73:=zvk
def pl73:PL underlying73 #[(0,1),(1,1),(2,1)]:=λ_=>by kernel_rfl
structure QR where
  L:(List Int)
  I:Int
deriving Inhabited
@[reducible] def QC : Rep QR := ⟨λx => ([tsl rI x.L,ti x.I]),2,true,λ_ => rfl,λ_ => onel,λh => (by cases h)⟩
abbrev zr81:Value:=.agg #[(.slice none 0 0),(.int .i64 0)]
def tok81:TOk prog 81 QC 32 zr81:=tk underlying81
abbrev zs81:=(QR.mk ([]:(List Int)) (0:Int))
def zc81:ZC QC zs81 zr81:=λ_ _=>zct
def zok81:ZO QC zs81 zr81:=λF w=>⟨_,rfl,zc81 F w⟩
def zv81:ZV 81 zr81:=zvk
def pl81:PL underlying81 #[(0,1),(1,1)]:=λ_=>by kernel_rfl
structure Qav where
  old:(List Int)
  used:(List Int)
  lo:Int
  hi:Int
deriving Inhabited
@[reducible] def Qbd : Rep Qav := ⟨λx => ([tsl rI x.old,tsl rI x.used,ti x.lo,ti x.hi]),4,true,λ_ => rfl,λ_ => onel,λh => (by cases h)⟩
abbrev zr99:Value:=.agg #[(.slice none 0 0),(.slice none 0 0),(.int .i64 0),(.int .i64 0)]
def tok99:TOk prog 99 Qbd 64 zr99:=tk underlying99
abbrev zs99:=(Qav.mk ([]:(List Int)) ([]:(List Int)) (0:Int) (0:Int))
def zc99:ZC Qbd zs99 zr99:=λ_ _=>zct
def zok99:ZO Qbd zs99 zr99:=λF w=>⟨_,rfl,zc99 F w⟩
def zv99:ZV 99 zr99:=zvk
def pl99:PL underlying99 #[(0,1),(1,1),(2,1),(3,1)]:=λ_=>by kernel_rfl
@[reducible] def tF100 (p : (Int -> Option Bool)) : Ty := tfn prog [] (A := Int) (B := Bool) (λx => [ti x]) (λy => tb y) (p)
@[reducible] def QhY : Rep (Int -> Option Bool) := ⟨λp => [tF100 p],1,false,λ_ => rfl,λ_ => Qt QbV Qak,λ_ => rfl⟩
@[reducible] def QxE : Rep (Option (Int -> Option Bool)) := ⟨λp => [tfo (tF100) p],1,false,λ_ => rfl,λ_ => Qt (Qfg (λ_ => QbV)) Qak,λ_ => rfl⟩
theorem tok100:TOk prog 100 QhY 8 .nilFunc:=tk underlying100
def zok100:ZO QxE none .nilFunc:=λ_ _=>rfl
structure Qi where
  From:Int
  To:Int
  Lo:Int
  Hi:Int
  Cost:Int
deriving Inhabited
@[reducible] def QE : Rep Qi := ⟨λx => ([ti x.From,ti x.To,ti x.Lo,ti x.Hi,ti x.Cost]),5,true,λ_ => rfl,λ_ => onel,λh => (by cases h)⟩
abbrev QF9:Value:=.agg #[(.int .i64 0),(.int .i64 0),(.int .i64 0),(.int .i64 0),(.int .i64 0)]
def QxF:TOk prog 142 QE 40 QF9:=tk underlying142
abbrev QGl:=(Qi.mk (0:Int) (0:Int) (0:Int) (0:Int) (0:Int))
def zc142:ZC QE QGl QF9:=λ_ _=>zct
def zok142:ZO QE QGl QF9:=λF w=>⟨_,rfl,zc142 F w⟩
def zv142:ZV 142 QF9:=zvk
def pl142:PL underlying142 #[(0,1),(1,1),(2,1),(3,1),(4,1)]:=λ_=>by kernel_rfl
def QxG:TOk prog 101 (rSl QE) 24 (.slice none 0 0):=tk underlying101
structure Qy where
  Xi:Int
  Index:Int
  Field:Int
  Code:Int
deriving Inhabited
@[reducible] def QG : Rep Qy := ⟨λx => ([ti x.Xi,ti x.Index,ti x.Field,ti x.Code]),4,true,λ_ => rfl,λ_ => onel,λh => (by cases h)⟩
abbrev QGa:Value:=.agg #[(.int .i64 0),(.int .i64 0),(.int .i64 0),(.int .i64 0)]
def QsF:TOk prog 108 QG 32 QGa:=tk underlying108
abbrev QGm:=(Qy.mk (0:Int) (0:Int) (0:Int) (0:Int))
def zc108:ZC QG QGm QGa:=λ_ _=>zct
def zok108:ZO QG QGm QGa:=λF w=>⟨_,rfl,zc108 F w⟩
def zv108:ZV 108 QGa:=zvk
def pl108:PL underlying108 #[(0,1),(1,1),(2,1),(3,1)]:=λ_=>by kernel_rfl
def QsG:TOk prog 111 (rSl Qag) 24 (.slice none 0 0):=tk underlying111
def zok111:ZO (rSl Qag) ([]:(List Bool)) (.slice none 0 0):=λ_ _=>⟨none,0,rfl,Nat.le_refl _,λh=>(h rfl).elim⟩
@[reducible] def tF120 (p : (Qm -> Option Bool)) : Ty := tfn prog [] (A := Qm) (B := Bool) (λx => [Qs.ty x]) (λy => tb y) (p)
@[reducible] def Qmu : Rep (Qm -> Option Bool) := ⟨λp => [tF120 p],1,false,λ_ => rfl,λ_ => Qt QbV Qak,λ_ => rfl⟩
@[reducible] def QxH : Rep (Option (Qm -> Option Bool)) := ⟨λp => [tfo (tF120) p],1,false,λ_ => rfl,λ_ => Qt (Qfg (λ_ => QbV)) Qak,λ_ => rfl⟩
theorem tok120:TOk prog 120 Qmu 8 .nilFunc:=tk underlying120
def zok120:ZO QxH none .nilFunc:=λ_ _=>rfl
structure Qaj where
  a:Int
  b:Int
  n:Int
deriving Inhabited
@[reducible] def QaK : Rep Qaj := ⟨λx => ([ti x.a,ti x.b,ti x.n]),3,true,λ_ => rfl,λ_ => onel,λh => (by cases h)⟩
abbrev QGb:Value:=.agg #[(.int .i64 0),(.int .i64 0),(.int .i64 0)]
def QxI:TOk prog 128 QaK 24 QGb:=tk underlying128
abbrev QGn:=(Qaj.mk (0:Int) (0:Int) (0:Int))
def zc128:ZC QaK QGn QGb:=λ_ _=>zct
def zok128:ZO QaK QGn QGb:=λF w=>⟨_,rfl,zc128 F w⟩
def zv128:ZV 128 QGb:=zvk
def pl128:PL underlying128 #[(0,1),(1,1),(2,1)]:=λ_=>by kernel_rfl
@[reducible] def tF136 (p : ((List Int) -> Option Bool)) : Ty := tfn prog [] (A := (List Int)) (B := Bool) (λx => [tsl rI x]) (λy => tb y) (p)
@[reducible] def QpH : Rep ((List Int) -> Option Bool) := ⟨λp => [tF136 p],1,false,λ_ => rfl,λ_ => Qt QbV Qak,λ_ => rfl⟩
@[reducible] def QxJ : Rep (Option ((List Int) -> Option Bool)) := ⟨λp => [tfo (tF136) p],1,false,λ_ => rfl,λ_ => Qt (Qfg (λ_ => QbV)) Qak,λ_ => rfl⟩
theorem tok136:TOk prog 136 QpH 8 .nilFunc:=tk underlying136
def zok136:ZO QxJ none .nilFunc:=λ_ _=>rfl
structure Qg where
  edge:Int
  from':Int
  to:Int
  cost:Int
  forward:Int
deriving Inhabited
@[reducible] def Qv : Rep Qg := ⟨λx => ([ti x.edge,ti x.from',ti x.to,ti x.cost,ti x.forward]),5,true,λ_ => rfl,λ_ => onel,λh => (by cases h)⟩
abbrev QGc:Value:=.agg #[(.int .i64 0),(.int .i64 0),(.int .i64 0),(.int .i64 0),(.int .i64 0)]
def Qdd:TOk prog 198 Qv 40 QGc:=tk underlying198
abbrev QGo:=(Qg.mk (0:Int) (0:Int) (0:Int) (0:Int) (0:Int))
def zc198:ZC Qv QGo QGc:=λ_ _=>zct
def Qid:ZO Qv QGo QGc:=λF w=>⟨_,rfl,zc198 F w⟩
def zv198:ZV 198 QGc:=zvk
def pl198:PL underlying198 #[(0,1),(1,1),(2,1),(3,1),(4,1)]:=λ_=>by kernel_rfl
def QxK:TOk prog 150 (rSl Qv) 24 (.slice none 0 0):=tk underlying150
structure Qw where
  n:Int
  l:(List Qi)
  flow:(List Int)
  arcs:(List Qg)
deriving Inhabited
@[reducible] def Qbf : Rep Qw := ⟨λx => ([ti x.n,tsl QE x.l,tsl rI x.flow,tsl Qv x.arcs]),4,true,λ_ => rfl,λ_ => onel,λh => (by cases h)⟩
abbrev QF7:Value:=.agg #[(.int .i64 0),(.slice none 0 0),(.slice none 0 0),(.slice none 0 0)]
def QxL:TOk prog 152 Qbf 80 QF7:=tk underlying152
abbrev QGp:=(Qw.mk (0:Int) ([]:(List Qi)) ([]:(List Int)) ([]:(List Qg)))
def zc152:ZC Qbf QGp QF7:=λ_ _=>zct
def zok152:ZO Qbf QGp QF7:=λF w=>⟨_,rfl,zc152 F w⟩
def zv152:ZV 152 QF7:=zvk
def pl152:PL underlying152 #[(0,1),(1,1),(2,1),(3,1)]:=λ_=>by kernel_rfl
def QxM:(∀F w,QW ([ti (0:Int),tsl QE ([]:(List Qi)),tsl rI ([]:(List Int)),tvs nilV]) F w QF7.cells.toList)/\([ti (0:Int),tsl QE ([]:(List Qi)),tsl rI ([]:(List Int)),tvs nilV]).length=4/\Qbf.agg=true/\∃cs,QF7=.agg cs:=⟨λ_ _=>(.cons rfl (.cons ⟨none,0,rfl,Nat.le_refl _,λh=>(h rfl).elim⟩ (.cons ⟨none,0,rfl,Nat.le_refl _,λh=>(h rfl).elim⟩ (.cons ⟨rfl,rfl⟩ .nil)))),rfl,rfl,_,rfl⟩
structure Qh where
  kind:Int
  field:Int
  to:Int
deriving Inhabited,DecidableEq
instance :MKey Qh:=⟨λx=>.agg #[.int .i64 x.kind,.int .i64 x.field,.int .i64 x.to],λx=>(-9223372036854775808<=x.kind/\x.kind<=9223372036854775807)/\(-9223372036854775808<=x.field/\x.field<=9223372036854775807)/\(-9223372036854775808<=x.to/\x.to<=9223372036854775807),λa b h=>by cases a;cases b;simpa using h⟩
def Qek (x:Qh):Option Unit:=if (-9223372036854775808<=x.kind/\x.kind<=9223372036854775807)/\(-9223372036854775808<=x.field/\x.field<=9223372036854775807)/\(-9223372036854775808<=x.to/\x.to<=9223372036854775807) then some () else none
def Qiz {x:Qh} {u:Unit} (h:Qek x=some u):MKey.good x:=by
  unfold Qek at h;split at h
  · assumption
  · cases h
def QqA:KLaw prog 167 Qh:=by
  refine QxC (deep_law (m:=2) (by omega) (by kernel_rfl) (by kernel_rfl) (by kernel_rfl)) ?_;rintro ⟨a0,a1,a2⟩ ⟨h0,c,d⟩;obtain⟨n,e⟩:∃n,prog.types.size=n+1:=⟨prog.types.size - 1,by kernel_rfl⟩;have f:prog.cellsOf 167=3:=by kernel_rfl
  have b:prog.cellsOf 3=1:=by kernel_rfl
  have g:prog.keyType 167=true:=by kernel_rfl
  have hf:(Value.agg #[.int .i64 a0,.int .i64 a1,.int .i64 a2]).formed prog 167=true:=by kernel_rfl
  have h:prog.keyLits (prog.types.size+1) 167 [.int .i64 a0,.int .i64 a1,.int .i64 a2]=some [.int .i64 a0,.int .i64 a1,.int .i64 a2]:=by rw[e];unfold Program.keyLits;rw[underlying167];simp[f,b,Qno underlying3 n h0,Qno underlying3 n c,Qno underlying3 n d]
  refine⟨.string (keyBytes [.int .i64 a0,.int .i64 a1,.int .i64 a2]),?_⟩;unfold keyOf;rw[underlying167];show (if (prog.keyType 167&&(Value.agg #[.int .i64 a0,.int .i64 a1,.int .i64 a2]).formed prog 167)=true then (prog.keyLits (prog.types.size+1) 167 [.int .i64 a0,.int .i64 a1,.int .i64 a2]).map λi=>Lit.string (keyBytes i) else none)=_;rw[g,hf,h];rfl
@[reducible] def QF : Rep Qh := ⟨λx => ([ti x.kind,ti x.field,ti x.to]),3,true,λ_ => rfl,λ_ => onel,λh => (by cases h)⟩
abbrev QGd:Value:=.agg #[(.int .i64 0),(.int .i64 0),(.int .i64 0)]
def QeS:TOk prog 167 QF 24 QGd:=tk underlying167
abbrev QGq:=(Qh.mk (0:Int) (0:Int) (0:Int))
def zc167:ZC QF QGq QGd:=λ_ _=>zct
def zok167:ZO QF QGq QGd:=λF w=>⟨_,rfl,zc167 F w⟩
def zv167:ZV 167 QGd:=zvk
def pl167:PL underlying167 #[(0,1),(1,1),(2,1)]:=λ_=>by kernel_rfl
def QsI:TOk prog 161 (rSl QF) 24 (.slice none 0 0):=tk underlying161
def QxN:TOk prog 105 (rSl QG) 24 (.slice none 0 0):=tk underlying105
structure QaB where
  x:Qc
  w:(List (List (List Int)))
  links:(List Qh)
  refs:(MpK Qh (List (List Int)))
  lives:(MpK Str Qm)
  out:(List Qy)
deriving Inhabited
@[reducible] def Qbv : Rep QaB := ⟨λx => (Qb.cs x.x ++ [tsl (rSl (rSl rI)) x.w,tsl QF x.links,Qao (rSl (rSl rI)) x.refs,Qao Qs x.lives,tsl QG x.out]),9,true,λ_ => rfl,λ_ => (QkB (QkA Qb) (Qt Qbj (Qt Qbj (Qt Qnl (Qt Qnl (Qt Qbj Qak)))))),λh => (by cases h)⟩
abbrev QF8:Value:=.agg #[(.int .i64 0),(.slice none 0 0),(.slice none 0 0),(.slice none 0 0),(.slice none 0 0),(.slice none 0 0),(.map none),(.map none),(.slice none 0 0)]
def QxO:TOk prog 165 Qbv 168 QF8:=tk underlying165
abbrev QGr:=(QaB.mk (Qc.mk (0:Int) ([]:(List QA)) ([]:(List Qm)) ([]:(List QL))) ([]:(List (List (List Int)))) ([]:(List Qh)) (none:(MpK Qh (List (List Int)))) (none:(MpK Str Qm)) ([]:(List Qy)))
def zc165:ZC Qbv QGr QF8:=λ_ _=>zct
def zok165:ZO Qbv QGr QF8:=λF w=>⟨_,rfl,zc165 F w⟩
def zv165:ZV 165 QF8:=zvk
def pl165:PL underlying165 #[(0,4),(4,1),(5,1),(6,1),(7,1),(8,1)]:=λ_=>by kernel_rfl
def Qua:(∀F w,QW (Qb.cs (Qc.mk (0:Int) ([]:(List QA)) ([]:(List Qm)) ([]:(List QL)))++[tsl (rSl (rSl rI)) ([]:(List (List (List Int)))),tvs nilV,Qao (rSl (rSl rI)) (none:(MpK Qh (List (List Int)))),Qao Qs (none:(MpK Str Qm)),tvs nilV]) F w QF8.cells.toList)/\(Qb.cs (Qc.mk (0:Int) ([]:(List QA)) ([]:(List Qm)) ([]:(List QL)))++[tsl (rSl (rSl rI)) ([]:(List (List (List Int)))),tvs nilV,Qao (rSl (rSl rI)) (none:(MpK Qh (List (List Int)))),Qao Qs (none:(MpK Str Qm)),tvs nilV]).length=9/\Qbv.agg=true/\∃cs,QF8=.agg cs:=⟨λ_ _=>(.cons rfl (.cons ⟨none,0,rfl,Nat.le_refl _,λh=>(h rfl).elim⟩ (.cons ⟨none,0,rfl,Nat.le_refl _,λh=>(h rfl).elim⟩ (.cons ⟨none,0,rfl,Nat.le_refl _,λh=>(h rfl).elim⟩ (.cons ⟨none,0,rfl,Nat.le_refl _,λh=>(h rfl).elim⟩ (.cons ⟨rfl,rfl⟩ (.cons rfl (.cons rfl (.cons ⟨rfl,rfl⟩ .nil))))))))),rfl,rfl,_,rfl⟩
structure Q6 where
  a0:Bool
  a1:Bool
  a2:Bool
  a3:Bool
  a4:Bool
  a5:Bool
  a6:Bool
  a7:Bool
  a8:Bool
  a9:Bool
  a10:Bool
  a11:Bool
deriving Inhabited
@[reducible] def Q8 : Rep Q6 := ⟨λx => ([tb x.a0,tb x.a1,tb x.a2,tb x.a3,tb x.a4,tb x.a5,tb x.a6,tb x.a7,tb x.a8,tb x.a9,tb x.a10,tb x.a11]),12,true,λ_ => rfl,λ_ => onel,λh => (by cases h)⟩
@[reducible] def Q6.L (a : Q6) : List Bool := [a.a0,a.a1,a.a2,a.a3,a.a4,a.a5,a.a6,a.a7,a.a8,a.a9,a.a10,a.a11]
def Q6.setI (a:Q6) (i:Int) (v:Bool):Q6:=match i.toNat with | 0=>{ a with a0:=v } | 1=>{ a with a1:=v } | 2=>{ a with a2:=v } | 3=>{ a with a3:=v } | 4=>{ a with a4:=v } | 5=>{ a with a5:=v } | 6=>{ a with a6:=v } | 7=>{ a with a7:=v } | 8=>{ a with a8:=v } | 9=>{ a with a9:=v } | 10=>{ a with a10:=v } | 11=>{ a with a11:=v } | _=>a
def Q6.spl {pre post:List Ty} {a:Q6} {i:Int} {v u:Bool} {o:Nat} (c:pre.length=o) (h:idx a.L i=some u):splice (pre++Q8.cs a++post) (o+i.toNat) (Qag.cs v)=pre++Q8.cs (a.setI i v)++post:=by
  have b:=(idx_lt' h).2.1;unfold Q6.setI;revert b;generalize i.toNat=k;intro b;refine Qv1 c (show k+1<=12 from b) ?_
  match k,b with
  | 0,_=>rfl
  | 1,_=>rfl
  | 2,_=>rfl
  | 3,_=>rfl
  | 4,_=>rfl
  | 5,_=>rfl
  | 6,_=>rfl
  | 7,_=>rfl
  | 8,_=>rfl
  | 9,_=>rfl
  | 10,_=>rfl
  | 11,_=>rfl
abbrev QGe:Value:=.agg #[(.bool false),(.bool false),(.bool false),(.bool false),(.bool false),(.bool false),(.bool false),(.bool false),(.bool false),(.bool false),(.bool false),(.bool false)]
def Qnp:TOk prog 179 Q8 12 QGe:=tk underlying179
abbrev QGs:=(Q6.mk false false false false false false false false false false false false)
def zc179:ZC Q8 QGs QGe:=λ_ _=>zct
def zok179:ZO Q8 QGs QGe:=λF w=>⟨_,rfl,zc179 F w⟩
def zv179:ZV 179 QGe:=zvk
@[reducible] def tF184 (p : (Qe -> Option Bool)) : Ty := tfn prog [] (A := Qe) (B := Bool) (λx => [Qd.ty x]) (λy => tb y) (p)
@[reducible] def Qmv : Rep (Qe -> Option Bool) := ⟨λp => [tF184 p],1,false,λ_ => rfl,λ_ => Qt QbV Qak,λ_ => rfl⟩
@[reducible] def QxQ : Rep (Option (Qe -> Option Bool)) := ⟨λp => [tfo (tF184) p],1,false,λ_ => rfl,λ_ => Qt (Qfg (λ_ => QbV)) Qak,λ_ => rfl⟩
theorem tok184:TOk prog 184 Qmv 8 .nilFunc:=tk underlying184
def zok184:ZO QxQ none .nilFunc:=λ_ _=>rfl
structure QT where
  Xi:Int
  Field:Int
  Rule:Int
  Code:Int
deriving Inhabited
@[reducible] def Qae : Rep QT := ⟨λx => ([ti x.Xi,ti x.Field,ti x.Rule,ti x.Code]),4,true,λ_ => rfl,λ_ => onel,λh => (by cases h)⟩
abbrev QGf:Value:=.agg #[(.int .i64 0),(.int .i64 0),(.int .i64 0),(.int .i64 0)]
def QxR:TOk prog 190 Qae 32 QGf:=tk underlying190
abbrev QGt:=(QT.mk (0:Int) (0:Int) (0:Int) (0:Int))
def zc190:ZC Qae QGt QGf:=λ_ _=>zct
def zok190:ZO Qae QGt QGf:=λF w=>⟨_,rfl,zc190 F w⟩
def zv190:ZV 190 QGf:=zvk
def pl190:PL underlying190 #[(0,1),(1,1),(2,1),(3,1)]:=λ_=>by kernel_rfl
structure QK where
  A:Int
  B:Int
  Mul:Int
  Xh:Bool
deriving Inhabited
@[reducible] def Qap : Rep QK := ⟨λx => ([ti x.A,ti x.B,ti x.Mul,tb x.Xh]),4,true,λ_ => rfl,λ_ => onel,λh => (by cases h)⟩
abbrev QGg:Value:=.agg #[(.int .i64 0),(.int .i64 0),(.int .i64 0),(.bool false)]
def QxS:TOk prog 192 Qap 32 QGg:=tk underlying192
abbrev QGu:=(QK.mk (0:Int) (0:Int) (0:Int) false)
def zc192:ZC Qap QGu QGg:=λ_ _=>zct
def zok192:ZO Qap QGu QGg:=λF w=>⟨_,rfl,zc192 F w⟩
def zv192:ZV 192 QGg:=zvk
def pl192:PL underlying192 #[(0,1),(1,1),(2,1),(3,1)]:=λ_=>by kernel_rfl
@[reducible] def tF195 (p : (Qi -> Option Bool)) : Ty := tfn prog [] (A := Qi) (B := Bool) (λx => [QE.ty x]) (λy => tb y) (p)
@[reducible] def QpI : Rep (Qi -> Option Bool) := ⟨λp => [tF195 p],1,false,λ_ => rfl,λ_ => Qt QbV Qak,λ_ => rfl⟩
@[reducible] def QxT : Rep (Option (Qi -> Option Bool)) := ⟨λp => [tfo (tF195) p],1,false,λ_ => rfl,λ_ => Qt (Qfg (λ_ => QbV)) Qak,λ_ => rfl⟩
theorem tok195:TOk prog 195 QpI 8 .nilFunc:=tk underlying195
def zok195:ZO QxT none .nilFunc:=λ_ _=>rfl
structure QI where
  Xi:Int
  Field:Int
  Rule:Int
  Code:Int
deriving Inhabited
@[reducible] def Qai : Rep QI := ⟨λx => ([ti x.Xi,ti x.Field,ti x.Rule,ti x.Code]),4,true,λ_ => rfl,λ_ => onel,λh => (by cases h)⟩
abbrev QGh:Value:=.agg #[(.int .i64 0),(.int .i64 0),(.int .i64 0),(.int .i64 0)]
def QsJ:TOk prog 207 Qai 32 QGh:=tk underlying207
abbrev QGv:=(QI.mk (0:Int) (0:Int) (0:Int) (0:Int))
def zc207:ZC Qai QGv QGh:=λ_ _=>zct
def zok207:ZO Qai QGv QGh:=λF w=>⟨_,rfl,zc207 F w⟩
def zv207:ZV 207 QGh:=zvk
def pl207:PL underlying207 #[(0,1),(1,1),(2,1),(3,1)]:=λ_=>by kernel_rfl
@[reducible] def tF216 (p : (QA -> Option Bool)) : Ty := tfn prog [] (A := QA) (B := Bool) (λx => [Qq.ty x]) (λy => tb y) (p)
@[reducible] def Qmw : Rep (QA -> Option Bool) := ⟨λp => [tF216 p],1,false,λ_ => rfl,λ_ => Qt QbV Qak,λ_ => rfl⟩
@[reducible] def QxU : Rep (Option (QA -> Option Bool)) := ⟨λp => [tfo (tF216) p],1,false,λ_ => rfl,λ_ => Qt (Qfg (λ_ => QbV)) Qak,λ_ => rfl⟩
theorem tok216:TOk prog 216 Qmw 8 .nilFunc:=tk underlying216
def zok216:ZO QxU none .nilFunc:=λ_ _=>rfl
@[reducible] def tF226 (p : (Qar -> Option Bool)) : Ty := tfn prog [] (A := Qar) (B := Bool) (λx => [QaR.ty x]) (λy => tb y) (p)
@[reducible] def Qmx : Rep (Qar -> Option Bool) := ⟨λp => [tF226 p],1,false,λ_ => rfl,λ_ => Qt QbV Qak,λ_ => rfl⟩
@[reducible] def QxV : Rep (Option (Qar -> Option Bool)) := ⟨λp => [tfo (tF226) p],1,false,λ_ => rfl,λ_ => Qt (Qfg (λ_ => QbV)) Qak,λ_ => rfl⟩
theorem tok226:TOk prog 226 Qmx 8 .nilFunc:=tk underlying226
def zok226:ZO QxV none .nilFunc:=λ_ _=>rfl
structure Qaq where
  is:Bool
  code:Int
deriving Inhabited
@[reducible] def QbH : Rep Qaq := ⟨λx => ([tb x.is,ti x.code]),2,true,λ_ => rfl,λ_ => onel,λh => (by cases h)⟩
abbrev QGi:Value:=.agg #[(.bool false),(.int .i64 0)]
def QsK:TOk prog 240 QbH 16 QGi:=tk underlying240
abbrev QGw:=(Qaq.mk false (0:Int))
def zc240:ZC QbH QGw QGi:=λ_ _=>zct
def zok240:ZO QbH QGw QGi:=λF w=>⟨_,rfl,zc240 F w⟩
def zv240:ZV 240 QGi:=zvk
def pl240:PL underlying240 #[(0,1),(1,1)]:=λ_=>by kernel_rfl
structure QaJ where
  x:Qc
  kind:Int
  field:Int
  f:Qe
deriving Inhabited
@[reducible] def Qa3 : Rep QaJ := ⟨λx => (Qb.cs x.x ++ [ti x.kind,ti x.field] ++ Qd.cs x.f),14,true,λ_ => rfl,λ_ => (QkB (QkB (QkA Qb) (Qt (QZ rfl) (Qt (QZ rfl) Qak))) (QkA Qd)),λh => (by cases h)⟩
abbrev QGj:Value:=.agg #[(.int .i64 0),(.slice none 0 0),(.slice none 0 0),(.slice none 0 0),(.int .i64 0),(.int .i64 0),(.string .empty),(.string .empty),(.string .empty),(.int .i64 0),(.int .i64 0),(.int .i64 0),(.slice none 0 0),(.slice none 0 0)]
def QxW:TOk prog 246 Qa3 216 QGj:=tk underlying246
abbrev QGx:=(QaJ.mk (Qc.mk (0:Int) ([]:(List QA)) ([]:(List Qm)) ([]:(List QL))) (0:Int) (0:Int) (Qe.mk ([]:Str) ([]:Str) ([]:Str) (0:Int) (0:Int) (0:Int) ([]:(List Str)) ([]:(List Int))))
def zc246:ZC Qa3 QGx QGj:=λ_ _=>zct
def zok246:ZO Qa3 QGx QGj:=λF w=>⟨_,rfl,zc246 F w⟩
def zv246:ZV 246 QGj:=zvk
def pl246:PL underlying246 #[(0,4),(4,1),(5,1),(6,8)]:=λ_=>by kernel_rfl
@[reducible] def tF241 (p : (QaJ -> Option Int)) : Ty := tfn prog [] (A := QaJ) (B := Int) (λx => [Qa3.ty x]) (λy => ti y) (p)
@[reducible] def rF241 : Rep (QaJ -> Option Int) := ⟨λp => [tF241 p],1,false,λ_ => rfl,λ_ => Qt QbV Qak,λ_ => rfl⟩
@[reducible] def Ql0 : Rep (Option (QaJ -> Option Int)) := ⟨λp => [tfo (tF241) p],1,false,λ_ => rfl,λ_ => Qt (Qfg (λ_ => QbV)) Qak,λ_ => rfl⟩
theorem QxX:TOk prog 241 rF241 8 .nilFunc:=tk underlying241
def QAH:TOk prog 241 Ql0 8 .nilFunc:=tk underlying241
def zok241:ZO Ql0 none .nilFunc:=λ_ _=>rfl
structure QcB where
  check:(Option (QaJ->Option Int))
instance :Inhabited QcB:=⟨⟨none⟩⟩
@[reducible] def Qde : Rep QcB := ⟨λx => ([Ql0.ty x.check]),1,true,λ_ => rfl,λ_ => (Qt (Qfg (λ_ => QbV)) Qak),λh => (by cases h)⟩
theorem QpJ:TOk prog 242 Qde 8 (.agg #[.nilFunc]):=tk underlying242
abbrev zs242:=(QcB.mk none)
def zc242:ZC Qde zs242 (.agg #[.nilFunc]):=λ_ _=>zct
def zok242:ZO Qde zs242 (.agg #[.nilFunc]):=λF w=>⟨_,rfl,zc242 F w⟩
def zv242:ZV 242 (.agg #[.nilFunc]):=zvk
def pl242:PL underlying242 #[(0,1)]:=λ_=>by kernel_rfl
@[reducible] def tF250 (p : (QL -> Option Bool)) : Ty := tfn prog [] (A := QL) (B := Bool) (λx => [QV.ty x]) (λy => tb y) (p)
@[reducible] def Qmy : Rep (QL -> Option Bool) := ⟨λp => [tF250 p],1,false,λ_ => rfl,λ_ => Qt QbV Qak,λ_ => rfl⟩
@[reducible] def QxZ : Rep (Option (QL -> Option Bool)) := ⟨λp => [tfo (tF250) p],1,false,λ_ => rfl,λ_ => Qt (Qfg (λ_ => QbV)) Qak,λ_ => rfl⟩
theorem tok250:TOk prog 250 Qmy 8 .nilFunc:=tk underlying250
def zok250:ZO QxZ none .nilFunc:=λ_ _=>rfl
@[reducible] def tF268 (p : (Str -> Option Bool)) : Ty := tfn prog [] (A := Str) (B := Bool) (λx => [tv (.string (sB x))]) (λy => tb y) (p)
@[reducible] def Qmz : Rep (Str -> Option Bool) := ⟨λp => [tF268 p],1,false,λ_ => rfl,λ_ => Qt QbV Qak,λ_ => rfl⟩
@[reducible] def Qx0 : Rep (Option (Str -> Option Bool)) := ⟨λp => [tfo (tF268) p],1,false,λ_ => rfl,λ_ => Qt (Qfg (λ_ => QbV)) Qak,λ_ => rfl⟩
theorem tok268:TOk prog 268 Qmz 8 .nilFunc:=tk underlying268
def zok268:ZO Qx0 none .nilFunc:=λ_ _=>rfl
@[reducible] def tF296 (p : (Int -> Option Bool)) : Ty := tfn prog [] (A := Int) (B := Bool) (λx => [tv (.int .u8 x)]) (λy => tb y) (p)
@[reducible] def QpK : Rep (Int -> Option Bool) := ⟨λp => [tF296 p],1,false,λ_ => rfl,λ_ => Qt QbV Qak,λ_ => rfl⟩
@[reducible] def Qx1 : Rep (Option (Int -> Option Bool)) := ⟨λp => [tfo (tF296) p],1,false,λ_ => rfl,λ_ => Qt (Qfg (λ_ => QbV)) Qak,λ_ => rfl⟩
theorem tok296:TOk prog 296 QpK 8 .nilFunc:=tk underlying296
def zok296:ZO Qx1 none .nilFunc:=λ_ _=>rfl
def Qbh:TOk prog 22 rVal 24 (.slice none 0 0):=tk underlying22
def tokV23:TOk prog 23 rVal 24 (.slice none 0 0):=tk underlying23
def tokV24:TOk prog 24 rVal 24 (.slice none 0 0):=tk underlying24
def Qx2:TOk prog 25 rVal 24 (.slice none 0 0):=tk underlying25
def tokV29:TOk prog 29 rVal 24 (.slice none 0 0):=tk underlying29
def QjT:TOk prog 37 rVal 24 (.slice none 0 0):=tk underlying37
def Qc0:TOk prog 40 rVal 24 (.slice none 0 0):=tk underlying40
def tokV84:TOk prog 84 rVal 24 (.slice none 0 0):=tk underlying84
def QuK:TOk prog 105 rVal 24 (.slice none 0 0):=tk underlying105
def Ql1:TOk prog 111 rVal 24 (.slice none 0 0):=tk underlying111
def QDa:TOk prog 150 rVal 24 (.slice none 0 0):=tk underlying150
def Qn7:TOk prog 161 rVal 24 (.slice none 0 0):=tk underlying161
def QuL:TOk prog 162 rVal 8 (.map none):=tk underlying162
def QuM:TOk prog 163 rVal 8 (.map none):=tk underlying163
def QuN:TOk prog 205 rVal 24 (.slice none 0 0):=tk underlying205
def QuO:Qz prog 27 0 0:=fl underlying27 tok3
def Qcv:Qz prog 27 1 1:=fl underlying27 Qfd
def Qn8:Qz prog 27 2 2:=fl underlying27 Qmt
def Qn9:Qz prog 27 3 3:=fl underlying27 tok25
def Ql2:Qz prog 39 0 0:=fl underlying39 tok9
def QqB:Qz prog 39 1 1:=fl underlying39 tok3
def QqC:Qz prog 39 2 2:=fl underlying39 tok3
def Qcj:Qz prog 39 3 3:=fl underlying39 tok37
def QDb:Qz prog 44 0 0:=fl underlying44 tok3
def QDc:Qz prog 44 1 1:=fl underlying44 tok3
def QDd:Qz prog 44 2 2:=fl underlying44 tok3
def QDe:Qz prog 54 0 0:=fl underlying54 Qci
def QfV:Qz prog 62 0 0:=fl underlying62 QcK
def QuP:Qz prog 62 1 4:=fl underlying62 QpG
def QcX:Qz prog 62 2 5:=fl underlying62 QpG
def Qoa:Qz prog 66 0 0:=fl underlying66 tok9
def Ql3:Qz prog 66 1 1:=fl underlying66 tok9
def QqD:Qz prog 66 2 2:=fl underlying66 tok9
def Qfh:Qz prog 66 3 3:=fl underlying66 tok3
def QhZ:Qz prog 66 4 4:=fl underlying66 tok3
def Qjr:Qz prog 66 5 5:=fl underlying66 tok3
def QDf:Qz prog 66 6 6:=fl underlying66 Qr1
def QDg:Qz prog 66 7 7:=fl underlying66 Qci
def QDh:Qz prog 73 0 0:=fl underlying73 tok3
def QDi:Qz prog 73 1 1:=fl underlying73 tok3
def QDj:Qz prog 73 2 2:=fl underlying73 tok3
def QDk:Qz prog 81 0 0:=fl underlying81 Qci
def QDl:Qz prog 81 1 1:=fl underlying81 tok3
def QuQ:Qz prog 86 0 0:=fl underlying86 tok9
def QuR:Qz prog 86 1 1:=fl underlying86 Qr1
def QDm:Qz prog 86 2 2:=fl underlying86 tok84
def QuS:Qz prog 89 0 0:=fl underlying89 tok9
def Qob:Qz prog 89 1 1:=fl underlying89 tok9
def Qoc:Qz prog 89 2 2:=fl underlying89 tok9
def Qod:Qz prog 89 3 3:=fl underlying89 tok9
def Qoe:Qz prog 89 4 4:=fl underlying89 tok3
def QuT:Qz prog 99 0 0:=fl underlying99 Qci
def Qof:Qz prog 99 1 1:=fl underlying99 Qci
def QDn:Qz prog 99 2 2:=fl underlying99 tok3
def QuU:Qz prog 99 3 3:=fl underlying99 tok3
def QAI:Qz prog 108 0 0:=fl underlying108 tok3
def QAJ:Qz prog 108 3 3:=fl underlying108 QjL
def QoZ:Qz prog 128 0 0:=fl underlying128 tok3
def Qo0:Qz prog 128 1 1:=fl underlying128 tok3
def QsL:Qz prog 128 2 2:=fl underlying128 tok3
def QAK:Qz prog 142 0 0:=fl underlying142 tok3
def QAL:Qz prog 142 1 1:=fl underlying142 tok3
def QAM:Qz prog 142 2 2:=fl underlying142 tok3
def QAN:Qz prog 142 3 3:=fl underlying142 tok3
def QAO:Qz prog 142 4 4:=fl underlying142 tok3
def QAP:Qz prog 152 0 0:=fl underlying152 tok3
def QAQ:Qz prog 152 1 1:=fl underlying152 QxG
def QsM:Qz prog 152 2 2:=fl underlying152 Qci
def QAR:Qz prog 152 3 3:=fl underlying152 QxK
def QAS:Qz prog 165 0 0:=fl underlying165 QcK
def QAT:Qz prog 165 1 4:=fl underlying165 QpG
def QkY:Qz prog 165 2 5:=fl underlying165 QsI
def QpM:TOk prog 162 (rMpK (κ:=Qh) (rSl (rSl rI))) 8 (.map none):=tk underlying162
def QmA:Qz prog 165 3 6:=fl underlying165 QpM
def QsN:TOk prog 163 (rMpK (κ:=Str) Qs) 8 (.map none):=tk underlying163
def Qo1:Qz prog 165 4 7:=fl underlying165 QsN
def QsO:Qz prog 165 5 8:=fl underlying165 QxN
def QmB:Qz prog 167 0 0:=fl underlying167 tok3
def QiA:Qz prog 167 1 1:=fl underlying167 tok3
def QsP:Qz prog 167 2 2:=fl underlying167 tok3
def QAU:Qz prog 190 3 3:=fl underlying190 QjL
def QAV:Qz prog 192 0 0:=fl underlying192 tok3
def QAW:Qz prog 192 1 1:=fl underlying192 tok3
def QAX:Qz prog 192 2 2:=fl underlying192 tok3
def QAY:Qz prog 192 3 3:=fl underlying192 tok4
def QsQ:Qz prog 198 0 0:=fl underlying198 tok3
def QAZ:Qz prog 198 1 1:=fl underlying198 tok3
def QkZ:Qz prog 198 2 2:=fl underlying198 tok3
def QA0:Qz prog 198 3 3:=fl underlying198 tok3
def QsR:Qz prog 198 4 4:=fl underlying198 tok3
def QsS:Qz prog 207 3 3:=fl underlying207 QjL
def QA1:Qz prog 240 0 0:=fl underlying240 tok4
def QA2:Qz prog 240 1 1:=fl underlying240 QjL
def QsT:Qz prog 242 0 0:=fl underlying242 QxX
def QA3:Qz prog 246 0 0:=fl underlying246 QcK
def QA4:Qz prog 246 1 4:=fl underlying246 tok3
def QA5:Qz prog 246 2 5:=fl underlying246 tok3
def QA6:Qz prog 246 3 6:=fl underlying246 QaY
def Qrg:∀x,Qhg (Qv.ty x):=λx=>QAh (by intro T h;simp at h;rcases h with h | h | h | h | h<;>subst h<;>exact Qa8)
def Qx3:Qxv prog 198 1 1:=⟨_,_,_,underlying198,rfl,rfl,underlying3,rfl⟩
def call4:Qj prog 4:=cl func4
def call5:Qj prog 5:=cl func5
def call6:Qj prog 6:=cl func6
def call7:Qj prog 7:=cl func7
def call8:Qj prog 8:=cl func8
def call9:Qj prog 9:=cl func9
def call10:Qj prog 10:=cl func10
def call11:Qj prog 11:=cl func11
def call12:Qj prog 12:=cl func12
def Qx4:Qj prog 13:=cl func13
def call14:Qj prog 14:=cl func14
def call15:Qj prog 15:=cl func15
def call16:Qj prog 16:=cl func16
def call17:Qj prog 17:=cl func17
def Qx7:Qj prog 18:=cl func18
def Qx8:Qj prog 19:=cl func19
def Qx9:Qj prog 20:=cl func20
def Qya:Qj prog 21:=cl func21
def Qyb:Qj prog 22:=cl func22
def Qyc:Qj prog 23:=cl func23
def call24:Qj prog 24:=cl func24
def Qyd:Qj prog 25:=cl func25
def Qye:Qj prog 26:=cl func26
def QgI:Qj prog 27:=cl func27
def Qyf:Qj prog 28:=cl func28
def call29:Qj prog 29:=cl func29
def call30:Qj prog 30:=cl func30
def call31:Qj prog 31:=cl func31
def call32:Qj prog 32:=cl func32
def QsU:Qj prog 33:=cl func33
def QsV:Qj prog 34:=cl func34
def Qyi:Qj prog 35:=cl func35
def Qyj:Qj prog 36:=cl func36
def call37:Qj prog 37:=cl func37
def call38:Qj prog 38:=cl func38
def call39:Qj prog 39:=cl func39
def call40:Qj prog 40:=cl func40
def call41:Qj prog 41:=cl func41
def QsW:Qj prog 42:=cl func42
def call43:Qj prog 43:=cl func43
def QpN:Qj prog 44:=cl func44
def call45:Qj prog 45:=cl func45
def Qyk:Qj prog 46:=cl func46
def call47:Qj prog 47:=cl func47
def call48:Qj prog 48:=cl func48
def call49:Qj prog 49:=cl func49
def call50:Qj prog 50:=cl func50
def call51:Qj prog 51:=cl func51
def call52:Qj prog 52:=cl func52
def QpO:Qj prog 53:=cl func53
def call54:Qj prog 54:=cl func54
def call55:Qj prog 55:=cl func55
def call56:Qj prog 56:=cl func56
def call57:Qj prog 57:=cl func57
def call58:Qj prog 58:=cl func58
def Qs0:Qj prog 59:=cl func59
def call60:Qj prog 60:=cl func60
def call61:Qj prog 61:=cl func61
def Qyp:Qj prog 62:=cl func62
def call63:Qj prog 63:=cl func63
def call64:Qj prog 64:=cl func64
def call65:Qj prog 65:=cl func65
def Qs1:Qj prog 66:=cl func66
def call67:Qj prog 67:=cl func67
def call68:Qj prog 68:=cl func68
def Qyq:Qj prog 69:=cl func69
def Qyr:Qj prog 70:=cl func70
def Qys:Qj prog 71:=cl func71
def Qs2:Qj prog 72:=cl func72
def Qyt:Qj prog 73:=cl func73
def Qnq:Qj prog 74:=cl func74
def call75:Qj prog 75:=cl func75
def Qyu:Qj prog 76:=cl func76
def QpQ:Qj prog 77:=cl func77
def call78:Qj prog 78:=cl func78
def call79:Qj prog 79:=cl func79
def call80:Qj prog 80:=cl func80
def Qs3:Qj prog 81:=cl func81
def call82:Qj prog 82:=cl func82
def call83:Qj prog 83:=cl func83
def call84:Qj prog 84:=cl func84
def Qyz:Qj prog 85:=cl func85
def QyA:Qj prog 86:=cl func86
def call87:Qj prog 87:=cl func87
def call88:Qj prog 88:=cl func88
def QyC:Qj prog 89:=cl func89
def QyD:Qj prog 90:=cl func90
def call91:Qj prog 91:=cl func91
def call92:Qj prog 92:=cl func92
def call93:Qj prog 93:=cl func93
def call94:Qj prog 94:=cl func94
def QyE:Qj prog 95:=cl func95
def QyF:Qj prog 96:=cl func96
def call97:Qj prog 97:=cl func97
def call98:Qj prog 98:=cl func98
def call99:Qj prog 99:=cl func99
def QuV:Qj prog 100:=cl func100
def QuW:Qj prog 101:=cl func101
def QuX:Qj prog 103:=cl func103
def QqE:Qj prog 104:=cl func104
def QuY:Qj prog 105:=cl func105
def QuZ:Qj prog 106:=cl func106
def Qu0:Qj prog 107:=cl func107
def Qu1:Qj prog 108:=cl func108
def QDo:Qj prog 109:=cl func109
def Qu2:Qj prog 110:=cl func110
def QqF:Qj prog 111:=cl func111
def QDp:Qj prog 112:=cl func112
def QDq:Qj prog 113:=cl func113
def QDr:Qj prog 114:=cl func114
def QDs:Qj prog 115:=cl func115
def QDt:Qj prog 116:=cl func116
def QDu:Qj prog 117:=cl func117
def QqG:Qj prog 118:=cl func118
def QDv:Qj prog 120:=cl func120
def QDw:Qj prog 121:=cl func121
def QDx:Qj prog 122:=cl func122
def QDy:Qj prog 123:=cl func123
def QDz:Qj prog 124:=cl func124
def QDA:Qj prog 125:=cl func125
def QDB:Qj prog 126:=cl func126
def QDC:Qj prog 127:=cl func127
def QDD:Qj prog 128:=cl func128
def QDE:Qj prog 129:=cl func129
def QDF:Qj prog 130:=cl func130
def QDG:Qj prog 131:=cl func131
def QDH:Qj prog 134:=cl func134
def Ql4:Qj prog 135:=cl func135
def QDI:Qj prog 136:=cl func136
def QDJ:Qj prog 137:=cl func137
def Qu3:Qj prog 138:=cl func138
def Qu4:Qj prog 139:=cl func139
def Qu5:Qj prog 140:=cl func140
def Qu6:Qj prog 141:=cl func141
def QDK:Qj prog 142:=cl func142
def QDL:Qj prog 143:=cl func143
def QDM:Qj prog 144:=cl func144
def QDN:Qj prog 145:=cl func145
def QDO:Qj prog 146:=cl func146
def QDP:Qj prog 147:=cl func147
def QDQ:Qj prog 148:=cl func148
def QDR:Qj prog 149:=cl func149
def QDS:Qj prog 150:=cl func150
def QDT:Qj prog 162:=cl func162
def QDU:Qj prog 163:=cl func163
def QDV:Qj prog 164:=cl func164
def QDW:Qj prog 165:=cl func165
def QDX:Qj prog 166:=cl func166
def QDY:Qj prog 167:=cl func167
def QDZ:Qj prog 168:=cl func168
def QD0:Qj prog 169:=cl func169
def QD1:Qj prog 170:=cl func170
def QD2:Qj prog 171:=cl func171
def QD3:Qj prog 172:=cl func172
def QD4:Qj prog 173:=cl func173
def QD5:Qj prog 174:=cl func174
def QD6:Qj prog 175:=cl func175
def QD7:Qj prog 176:=cl func176
def QD8:Qj prog 177:=cl func177
def QD9:Qj prog 178:=cl func178
def QEa:Qj prog 179:=cl func179
def QEb:Qj prog 186:=cl func186
def QEc:Qj prog 187:=cl func187
def QEd:Qj prog 188:=cl func188
def QEe:Qj prog 189:=cl func189
def QEf:Qj prog 190:=cl func190
def QEg:Qj prog 191:=cl func191
def QEh:Qj prog 192:=cl func192
def QEi:Qj prog 193:=cl func193
def QEj:Qj prog 194:=cl func194
def QEk:Qj prog 195:=cl func195
def QEl:Qj prog 196:=cl func196
def Qjs:Qj prog 198:=cl func198
def Qu7:Qj prog 199:=cl func199
def QqH:Qj prog 200:=cl func200
def QEm:Qj prog 202:=cl func202
def QEn:Qj prog 203:=cl func203
def QEo:Qj prog 204:=cl func204
def QEp:Qj prog 205:=cl func205
def QEq:Qj prog 206:=cl func206
def QqI:Qj prog 207:=cl func207
def QEr:Qj prog 208:=cl func208
def QEs:Qj prog 210:=cl func210
def Qu8:Qj prog 211:=cl func211
def Qu9:Qj prog 212:=cl func212
def QEt:Qj prog 213:=cl func213
def QEu:Qj prog 214:=cl func214
def QEv:Qj prog 215:=cl func215
def QEw:Qj prog 216:=cl func216
def QEx:Qj prog 217:=cl func217
def QEy:Qj prog 218:=cl func218
def QEz:Qj prog 219:=cl func219
def QEA:Qj prog 220:=cl func220
def QEB:Qj prog 221:=cl func221
def QEC:Qj prog 225:=cl func225
def QED:Qj prog 226:=cl func226
def QEE:Qj prog 227:=cl func227
def QEF:Qj prog 228:=cl func228
def QEG:Qj prog 229:=cl func229
def QEH:Qj prog 258:=cl func258
def Qva:Qj prog 261:=cl func261
def Qvb:Qj prog 262:=cl func262
def Qvc:Qj prog 263:=cl func263
def Qvd:Qj prog 264:=cl func264
def QEI:Qj prog 265:=cl func265
def Qve:Qj prog 266:=cl func266
def Qvf:Qj prog 267:=cl func267
def QEJ:Qj prog 268:=cl func268
def Qvg:Qj prog 269:=cl func269
def tok147:TOk prog 147 (rMp Qv) 8 (.map none):=tk underlying147
def Qs5:TOk prog 100 rVal 8 .nilFunc:=tk underlying100
def Qie:TOk prog 96 rVal 8 (.pointer none):=tk underlying96
def Qvh:TOk prog 144 rVal 8 (.pointer none):=tk underlying144
def QiN:TOk prog 154 rVal 8 (.pointer none):=tk underlying154
@[reducible] def bxM (x : Qc) (o : List (List (List Int))) (v q : Value) : Atom := box (Qb.cs x ++ [tsl (rSl (rSl rI)) o,tvs v]) q
@[reducible] def bxC (x : Qc) (w : List (List (List Int))) (l : List Qh) (r : MpK Qh (List (List Int))) (m : MpK Str Qm) (v q : Value) : Atom := box (Qb.cs x ++ [tsl (rSl (rSl rI)) w,tsl QF l,Qao (rSl (rSl rI)) r,Qao Qs m,tvs v]) q
@[reducible] def bxN (n : Int) (l : List Qi) (v : Value) (a : List Qg) (q : Value) : Atom := box ([ti n,tsl QE l,tvs v,tsl Qv a]) q
section
variable {M:Fr} {w0:World} {n:Nat} {Γ:List (Nat×Ty)} {As:List Atom} {a:Act} {w:World}
def _root_.Go.Sim.St.t1_0 {x0:Nat×Ty} (h:St M w0 n Γ As a w) (b:List Nat) (p:QbK Γ b=[x0]:=by exact rfl) (q:As=[]:=by exact rfl):St M w0 n [x0] [] a w:=h.to b _ _ p q
def _root_.Go.Sim.St.t7_0 {x0 b c d e f g:Nat×Ty} (h:St M w0 n Γ As a w) (i:List Nat) (p:QbK Γ i=[x0,b,c,d,e,f,g]:=by exact rfl) (q:As=[]:=by exact rfl):St M w0 n [x0,b,c,d,e,f,g] [] a w:=h.to i _ _ p q
end
abbrev zz0:Qe:=(Qe.mk ([]:Str) ([]:Str) ([]:Str) (0:Int) (0:Int) (0:Int) ([]:(List Str)) ([]:(List Int)))
abbrev zz1:QA:=(QA.mk ([]:Str) (0:Int) (0:Int) ([]:(List Qe)))
abbrev zz2:Qm:=(Qm.mk ([]:Str) ([]:(List Str)) ([]:(List Qar)))
abbrev zz3:QL:=(QL.mk ([]:Str) ([]:Str) ([]:Str) ([]:Str) (0:Int))
abbrev zz4:Qc:=(Qc.mk (0:Int) ([]:(List QA)) ([]:(List Qm)) ([]:(List QL)))
abbrev zz5:Qa1:=(Qa1.mk ([]:(List Int)) ([]:(List Int)))
abbrev zz6:Qg:=(Qg.mk (0:Int) (0:Int) (0:Int) (0:Int) (0:Int))
abbrev zz7:Q6:=(Q6.mk false false false false false false false false false false false false)
abbrev Qog:=underlying110
abbrev Qlk:=underlying147
abbrev QpR:=underlying174
abbrev Qoj:=underlying179
abbrev Qr6:=underlying218
abbrev ud22:=underlying22
abbrev Qr7:=underlying221
abbrev QpS:=underlying285
abbrev ud29:=underlying29
abbrev ud3:=underlying3
abbrev ud40:=underlying40
abbrev ud5:=underlying5
abbrev ud66:=underlying66
abbrev ud9:=underlying9

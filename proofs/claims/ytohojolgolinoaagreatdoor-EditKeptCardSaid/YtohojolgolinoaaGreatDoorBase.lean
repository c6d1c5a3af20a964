/- Closed facts on the types and functions of the translation. No condition. -/
import Derived.Test.YtohojolgolinoaaGreatDoorSimMg
import Derived.Test.YtohojolgolinoaaGreatDoorRows
set_option linter.all false
open Go.Proofs.Tryz
namespace Go.Proofs.YtohojolgolinoaaGreatDoor
open Go.Sim
variable {α:Type} {n:Nat}
abbrev zS:FV:=⟨_,rS,([]:Str)⟩
abbrev zI:FV:=⟨_,rI,(0:Int)⟩
abbrev zL {α:Type} (R:Rep α):FV:=⟨_,rSl R,[]⟩
section
variable {t:TypeId} {R:Rep α} {z:Value}
def tk {d:TypeDesc} (h:prog.underlying t=some d) (ha:G2 d=R.agg:=by rfl) (i:(prog.info? t).map (λi=>(i.zero,i.size,i.bytes))=some (some z,R.n,n):=by kernel_rfl) (k:z.cells.size=R.n:=by rfl):TOk prog t R n z:=⟨⟨_,h,ha⟩,i,k⟩
def fl {s f off:Nat} {b:Array Field} {fd:Field} (hu:prog.underlying s=some (.struct b)) (hz:TOk prog t R n z) (hf:b[f]?=some fd:=by rfl) (ht:fd.type=t:=by rfl) (c:fd.offset=off:=by rfl) (d:R.n≠0:=by decide):Qz prog s f off:=.mk hu hf c (ht▸hz) d
def cl {f : FuncId} {b : Func} (h : Tryz.prog.funcs[f]? = some b) (k : (b.name == "runtime.NumGoroutine") = false := by kernel_rfl) (e : b.body.isNone = false := by rfl) : Qj Tryz.prog f := ⟨⟨_, h, k, e⟩⟩
abbrev ZC (R:Rep α) (a:α) (z:Value):Prop:=∀F w,QW (R.cs a) F w z.cells.toList
abbrev ZO (R:Rep α) (a:α) (z:Value):Prop:=∀F w,(R.ty a).ok F w z
abbrev ZV (t:TypeId) (z:Value):Prop:=(prog.info? t).bind (·.zero)=some z
def zvk (h:(prog.info? t).bind (·.zero)=some z:=by kernel_rfl):ZV t z:=h
abbrev PL {fs:Array Field} (_:prog.underlying t=some (.struct fs)) (l:Array (Nat×Nat)):Prop:=∀w,((fs.mapM λf=>do pure (f.offset,<-sizeOf f.type):Sem (Array (Nat×Nat)))).run prog w=.ok l w
def zct {l:List Ty} {F:Blk} {w:World} {us:List Value} (h:QW l F w us:=by
  repeat first
    | exact QW.nil
    | apply QW.cons rfl
    | refine QW.cons ⟨none,0,rfl,Nat.le_refl _,λh=>(h rfl).elim⟩ ?_
  fail_if_success apply id):QW l F w us:=h
def blo {bytes:Nat} {Z l:List FV} {u:α} {b:Array Field} {pl:Array (Nat×Nat)} (h:prog.underlying t=some (.struct b)) (hp:PL h pl) (hz:ZV t z) (hc:∀F w,QW (fvs Z) F w z.cells.toList) {c:Value} (d:TOk prog t R bytes c) (e:pl.toList=offs 0 Z:=by rfl) (hu:R.cs u=fvs l:=by rfl) (ha:R.agg=true:=by rfl):Bl prog t Z l (R.ty u):=Bl.of ⟨_,_,_,h,hp,hz,hc,e⟩ d hu ha
end
def onel {l:List Ty} (h:∀T,T∈l->One T:=by
  repeat first
    | exact Ae
    | apply Qt (QZ rfl)
    | apply Qt DB
  fail_if_success apply id):∀T,T∈l->One T:=h
def mixed:prog.follows .mixedOrders=true:=kr
def mx:prog.follows .mixedOrders=true:=mixed
def D7:List (Value×Value):=[(.int .i64 0,.agg #[.func (.func 303) #[] #[]]),(.int .i64 1,.agg #[.func (.func 304) #[] #[]]),(.int .i64 4,.agg #[.func (.func 305) #[] #[]]),(.int .i64 5,.agg #[.func (.func 306) #[] #[]]),(.int .i64 6,.agg #[.func (.func 308) #[] #[]]),(.int .i64 7,.agg #[.func (.func 309) #[] #[]]),(.int .i64 8,.agg #[.func (.func 311) #[] #[]])]
def Rg:Ty:=G3 D7
def Nt:List Ty:=[Rg]
def tokM0:TOk prog 234 (rMapC D7) 8 (.map none):=⟨⟨_,underlying234,rfl⟩,(by kernel_rfl:(prog.info? 234).map (λi=>(i.zero,i.size,i.bytes))=some (some (.map none),1,8)),rfl⟩
def G4:List Str:=[[107,101,121],[114,101,102],[110,117,109],[112,105,99,107],[100,97,121],[115,116,101,112],[115,117,109],[115,104,97,114,101],[99,111,112,121]]
def Nu:List Ty:=G4.flatMap rS.cs
def Nv:Lz:=[1,10,100,1000,10000,100000,1000000,10000000,100000000,1000000000,10000000000,100000000000,1000000000000,10000000000000,100000000000000,1000000000000000,10000000000000000,100000000000000000,1000000000000000000,10000000000000000000]
def Nw:List Ty:=Nv.flatMap (rInt .u64).cs
def Ny:Lz:=[0,1,28,2,29,14,24,3,30,22,20,15,25,17,4,8,31,27,13,23,21,19,16,7,26,12,18,6,11,5,10,9]
def tglo3:List Ty:=Ny.flatMap (rInt .u8).cs
def Nz:Lz:=[0,1,56,2,57,49,28,3,61,58,42,50,38,29,17,4,62,47,59,36,45,43,51,22,53,39,33,30,24,18,12,5,63,55,48,27,60,41,37,16,46,35,44,21,52,32,23,11,54,26,40,15,34,20,31,10,25,14,19,9,13,8,7,6]
def tglo4:List Ty:=Nz.flatMap (rInt .u8).cs
abbrev bld:=bldE 293 5
def glo:Atom:=gloA [(0,Nt),(1,Nu),(2,Nw),(3,tglo3),(4,tglo4)]
def Nq:∀k,¬glo.fp k:=λ_ h=>h
def _root_.Go.Sim.OpJ.glo {P:Program} {o:Oper} {Γ:List (Nat×Ty)} {U E:List Atom} {N:Value->List Atom} {T:Value->Ty} (h:OpJ P o Γ U (glo::E) N T):OpJ P o Γ (glo::U) E N T:=OpJ.gloG Nq h
def WT:G5 glo 0 Nt:=N0 sm
def WU:IG glo 0 Nt:=WT.has
def WV:G5 glo 1 Nu:=N0 sm
def WW:IG glo 1 Nu:=WV.has
def WX:G5 glo 2 Nw:=N0 sm
def tok3:TOk prog 3 rI 8 (.int .i64 0):=tk underlying3
def zok3:ZO rI (0:Int) (.int .i64 0):=λ_ _=>rfl
def tok4:TOk prog 4 AE 1 (.bool false):=tk underlying4
def zok4:ZO AE false (.bool false):=λ_ _=>rfl
def tok5:TOk prog 5 (rInt .u8) 1 (.int .u8 0):=tk underlying5
def tok9:TOk prog 9 rS 16 (.string .empty):=tk underlying9
def tok20:TOk prog 20 (rAny 3 9) 16 .nilIface:=tk underlying20
def B6:TOk prog 22 (rSl rI) 24 (.slice none 0 0):=tk underlying22
def N1:TOk prog 42 (rSl rS) 24 (.slice none 0 0):=tk underlying42
structure Qe where
  Xj:Str
  Of:Str
  Up:Str
  Xi:Int
  Lo:Int
  Hi:Int
  Words:(List Str)
  Xf:Lz
deriving Inhabited
@[reducible] def Qd : Rep Qe := ⟨λx => [tv (.string (sB x.Xj)),tv (.string (sB x.Of)),tv (.string (sB x.Up)),ti x.Xi,ti x.Lo,ti x.Hi,tsl rS x.Words,tsl rI x.Xf],8,true,λ_ => rfl,λ_ => onel,λh => (by cases h)⟩
abbrev zr44:Value:=.agg #[.string .empty,.string .empty,.string .empty,.int .i64 0,.int .i64 0,.int .i64 0,.slice none 0 0,.slice none 0 0]
def Em:TOk prog 44 Qd 120 zr44:=tk underlying44
abbrev zs44:=Qe.mk ([]:Str) ([]:Str) ([]:Str) (0:Int) (0:Int) (0:Int) ([]:(List Str)) ([]:Lz)
def zc44:ZC Qd zs44 zr44:=λ_ _=>zct
def N2:ZO Qd zs44 zr44:=λF w=>⟨_,rfl,zc44 F w⟩
def zv44:ZV 44 zr44:=zvk
def pl44:PL underlying44 #[(0,1),(1,1),(2,1),(3,1),(4,1),(5,1),(6,1),(7,1)]:=λ_=>by kernel_rfl
def WY:(∀F w,QW ([tv (.string (sB ([]:Str))),tv (.string (sB ([]:Str))),tv (.string (sB ([]:Str))),ti (0:Int),ti (0:Int),ti (0:Int),tsl rS ([]:(List Str)),tvs nilV]) F w zr44.cells.toList)/\([tv (.string (sB ([]:Str))),tv (.string (sB ([]:Str))),tv (.string (sB ([]:Str))),ti (0:Int),ti (0:Int),ti (0:Int),tsl rS ([]:(List Str)),tvs nilV]).length=8/\Qd.agg=true/\∃cs,zr44=.agg cs:=⟨λ_ _=>.cons rfl (.cons rfl (.cons rfl (.cons rfl (.cons rfl (.cons rfl (.cons ⟨none,0,rfl,Nat.le_refl _,λh=>(h rfl).elim⟩ (.cons ⟨rfl,rfl⟩ .nil))))))),rfl,rfl,_,rfl⟩
def tok39:TOk prog 39 (rSl Qd) 24 (.slice none 0 0):=tk underlying39
structure QA where
  Xj:Str
  Lo:Int
  Hi:Int
  Xb:(List Qe)
deriving Inhabited
@[reducible] def Qq : Rep QA := ⟨λx => [tv (.string (sB x.Xj)),ti x.Lo,ti x.Hi,tsl Qd x.Xb],4,true,λ_ => rfl,λ_ => onel,λh => (by cases h)⟩
abbrev zr41:Value:=.agg #[.string .empty,.int .i64 0,.int .i64 0,.slice none 0 0]
def IH:TOk prog 41 Qq 56 zr41:=tk underlying41
abbrev zs41:=QA.mk ([]:Str) (0:Int) (0:Int) ([]:(List Qe))
def zc41:ZC Qq zs41 zr41:=λ_ _=>zct
def zok41:ZO Qq zs41 zr41:=λF w=>⟨_,rfl,zc41 F w⟩
def zv41:ZV 41 zr41:=zvk
def pl41:PL underlying41 #[(0,1),(1,1),(2,1),(3,1)]:=λ_=>by kernel_rfl
def WZ:(∀F w,QW ([tv (.string (sB ([]:Str))),ti (0:Int),ti (0:Int),tvs nilV]) F w zr41.cells.toList)/\([tv (.string (sB ([]:Str))),ti (0:Int),ti (0:Int),tvs nilV]).length=4/\Qq.agg=true/\∃cs,zr41=.agg cs:=⟨λ_ _=>.cons rfl (.cons rfl (.cons rfl (.cons ⟨rfl,rfl⟩ .nil))),rfl,rfl,_,rfl⟩
def N3:TOk prog 23 (rSl Qq) 24 (.slice none 0 0):=tk underlying23
structure AS where
  a0:Int
  a1:Int
deriving Inhabited
@[reducible] def Af : Rep AS := ⟨λx => [ti x.a0,ti x.a1],2,true,λ_ => rfl,λ_ => onel,λh => (by cases h)⟩
abbrev II:Value:=.agg #[.int .i64 0,.int .i64 0]
def Rh:TOk prog 104 Af 16 II:=tk underlying104
abbrev N4:=AS.mk (0:Int) (0:Int)
def zc104:ZC Af N4 II:=λ_ _=>zct
def zok104:ZO Af N4 II:=λF w=>⟨_,rfl,zc104 F w⟩
def Ri:TOk prog 101 (rSl Af) 24 (.slice none 0 0):=tk underlying101
structure Qm where
  Xj:Str
  Xe:(List Str)
  Xg:(List AS)
deriving Inhabited
@[reducible] def Qs : Rep Qm := ⟨λx => [tv (.string (sB x.Xj)),tsl rS x.Xe,tsl Af x.Xg],3,true,λ_ => rfl,λ_ => onel,λh => (by cases h)⟩
abbrev FL:Value:=.agg #[.string .empty,.slice none 0 0,.slice none 0 0]
def En:TOk prog 103 Qs 64 FL:=tk underlying103
abbrev N5:=Qm.mk ([]:Str) ([]:(List Str)) ([]:(List AS))
def zc103:ZC Qs N5 FL:=λ_ _=>zct
def N6:ZO Qs N5 FL:=λF w=>⟨_,rfl,zc103 F w⟩
def zv103:ZV 103 FL:=zvk
def pl103:PL underlying103 #[(0,1),(1,1),(2,1)]:=λ_=>by kernel_rfl
def WQ:(∀F w,QW ([tv (.string (sB ([]:Str))),tsl rS ([]:(List Str)),tvs nilV]) F w FL.cells.toList)/\([tv (.string (sB ([]:Str))),tsl rS ([]:(List Str)),tvs nilV]).length=3/\Qs.agg=true/\∃cs,FL=.agg cs:=⟨λ_ _=>.cons rfl (.cons ⟨none,0,rfl,Nat.le_refl _,λh=>(h rfl).elim⟩ (.cons ⟨rfl,rfl⟩ .nil)),rfl,rfl,_,rfl⟩
def KA:TOk prog 24 (rSl Qs) 24 (.slice none 0 0):=tk underlying24
structure QL where
  Xj:Str
  Xi:Str
  A:Str
  B:Str
  N:Int
deriving Inhabited
@[reducible] def QV : Rep QL := ⟨λx => [tv (.string (sB x.Xj)),tv (.string (sB x.Xi)),tv (.string (sB x.A)),tv (.string (sB x.B)),ti x.N],5,true,λ_ => rfl,λ_ => onel,λh => (by cases h)⟩
abbrev zr84:Value:=.agg #[.string .empty,.string .empty,.string .empty,.string .empty,.int .i64 0]
def tok84:TOk prog 84 QV 72 zr84:=tk underlying84
abbrev zs84:=QL.mk ([]:Str) ([]:Str) ([]:Str) ([]:Str) (0:Int)
def zc84:ZC QV zs84 zr84:=λ_ _=>zct
def zok84:ZO QV zs84 zr84:=λF w=>⟨_,rfl,zc84 F w⟩
def zv84:ZV 84 zr84:=zvk
def pl84:PL underlying84 #[(0,1),(1,1),(2,1),(3,1),(4,1)]:=λ_=>by kernel_rfl
def tok25:TOk prog 25 (rSl QV) 24 (.slice none 0 0):=tk underlying25
structure Qc where
  Version:Int
  Xa:(List QA)
  Xd:(List Qm)
  Xc:(List QL)
deriving Inhabited
@[reducible] def Qb : Rep Qc := ⟨λx => [ti x.Version,tsl Qq x.Xa,tsl Qs x.Xd,tsl QV x.Xc],4,true,λ_ => rfl,λ_ => onel,λh => (by cases h)⟩
abbrev zr27:Value:=.agg #[.int .i64 0,.slice none 0 0,.slice none 0 0,.slice none 0 0]
def D8:TOk prog 27 Qb 80 zr27:=tk underlying27
abbrev zs27:=Qc.mk (0:Int) ([]:(List QA)) ([]:(List Qm)) ([]:(List QL))
def zc27:ZC Qb zs27 zr27:=λ_ _=>zct
def zok27:ZO Qb zs27 zr27:=λF w=>⟨_,rfl,zc27 F w⟩
def zv27:ZV 27 zr27:=zvk
def pl27:PL underlying27 #[(0,1),(1,1),(2,1),(3,1)]:=λ_=>by kernel_rfl
def Wa:(∀F w,QW ([ti (0:Int),tvs nilV,tvs nilV,tvs nilV]) F w zr27.cells.toList)/\([ti (0:Int),tvs nilV,tvs nilV,tvs nilV]).length=4/\Qb.agg=true/\∃cs,zr27=.agg cs:=⟨λ_ _=>.cons rfl (.cons ⟨rfl,rfl⟩ (.cons ⟨rfl,rfl⟩ (.cons ⟨rfl,rfl⟩ .nil))),rfl,rfl,_,rfl⟩
def BZ:TOk prog 51 (rSl (rSl rI)) 24 (.slice none 0 0):=tk underlying51
def zok51:ZO (rSl (rSl rI)) ([]:(List Lz)) (.slice none 0 0):=λ_ _=>⟨none,0,rfl,Nat.le_refl _,λh=>(h rfl).elim⟩
def KB:TOk prog 29 (rSl (rSl (rSl rI))) 24 (.slice none 0 0):=tk underlying29
def IJ:TOk prog 33 rI 8 (.int .i64 0):=tk underlying33
structure BQ where
  Flow:Lz
  Level:Lz
deriving Inhabited
@[reducible] def AW : Rep BQ := ⟨λx => [tsl rI x.Flow,tsl rI x.Level],2,true,λ_ => rfl,λ_ => onel,λh => (by cases h)⟩
abbrev zr60:Value:=.agg #[.slice none 0 0,.slice none 0 0]
def tok60:TOk prog 60 AW 48 zr60:=tk underlying60
abbrev zs60:=BQ.mk ([]:Lz) ([]:Lz)
def zc60:ZC AW zs60 zr60:=λ_ _=>zct
def zok60:ZO AW zs60 zr60:=λF w=>⟨_,rfl,zc60 F w⟩
def zv60:ZV 60 zr60:=zvk
def pl60:PL underlying60 #[(0,1),(1,1)]:=λ_=>by kernel_rfl
@[reducible] def tF63 (p : (Lz -> Lz -> Option Bool)) : Ty := tfn prog [] (A := Lz × Lz) (B := Bool) (λx => [tsl rI x.1,tsl rI x.2]) (λy => tb y) (λx => p x.1 x.2)
@[reducible] def rF63 : Rep (Lz -> Lz -> Option Bool) := ⟨λp => [tF63 p],1,false,λ_ => rfl,λ_ => Qt Ct Ae,λ_ => rfl⟩
structure Q2 where
  x:Qc
  old:(List (List Lz))
  w:(List (List Lz))
deriving Inhabited
@[reducible] def Rj : Rep Q2 := ⟨λx => Qb.cs x.x ++ [tsl (rSl (rSl rI)) x.old,tsl (rSl (rSl rI)) x.w],6,true,λ_ => rfl,λ_ => G6 (G7 Qb) (Qt DB (Qt DB Ae)),λh => (by cases h)⟩
abbrev zr68:Value:=.agg #[.int .i64 0,.slice none 0 0,.slice none 0 0,.slice none 0 0,.slice none 0 0,.slice none 0 0]
abbrev zs68:=Q2.mk (Qc.mk (0:Int) ([]:(List QA)) ([]:(List Qm)) ([]:(List QL))) ([]:(List (List Lz))) ([]:(List (List Lz)))
def zc68:ZC Rj zs68 zr68:=λ_ _=>zct
def zv68:ZV 68 zr68:=zvk
def pl68:PL underlying68 #[(0,4),(4,1),(5,1)]:=λ_=>by kernel_rfl
structure Qy where
  Xi:Int
  Index:Int
  Field:Int
  Code:Int
deriving Inhabited
@[reducible] def QG : Rep Qy := ⟨λx => [ti x.Xi,ti x.Index,ti x.Field,ti x.Code],4,true,λ_ => rfl,λ_ => onel,λh => (by cases h)⟩
abbrev zr78:Value:=.agg #[.int .i64 0,.int .i64 0,.int .i64 0,.int .i64 0]
def tok78:TOk prog 78 QG 32 zr78:=tk underlying78
abbrev zs78:=Qy.mk (0:Int) (0:Int) (0:Int) (0:Int)
def zc78:ZC QG zs78 zr78:=λ_ _=>zct
def zv78:ZV 78 zr78:=zvk
def pl78:PL underlying78 #[(0,1),(1,1),(2,1),(3,1)]:=λ_=>by kernel_rfl
structure Qh where
  kind:Int
  field:Int
  to:Int
deriving Inhabited,DecidableEq
instance :MKey Qh:=⟨λx=>.agg #[.int .i64 x.kind,.int .i64 x.field,.int .i64 x.to],λx=>(-9223372036854775808<=x.kind/\x.kind<=9223372036854775807)/\(-9223372036854775808<=x.field/\x.field<=9223372036854775807)/\(-9223372036854775808<=x.to/\x.to<=9223372036854775807),λa b h=>by cases a;cases b;simpa using h⟩
def F6 (x:Qh):Option Unit:=if (-9223372036854775808<=x.kind/\x.kind<=9223372036854775807)/\(-9223372036854775808<=x.field/\x.field<=9223372036854775807)/\(-9223372036854775808<=x.to/\x.to<=9223372036854775807) then some () else none
def N7 {x:Qh} {u:Unit} (h:F6 x=some u):MKey.good x:=by
  unfold F6 at h;split at h
  · assumption
  · cases h
def N8:KLaw prog 93 Qh:=by
  apply Wb (deep_law (m:=2) om kr kr kr);rintro ⟨a0,a1,a2⟩ ⟨h0,c,d⟩;obtain⟨n,e⟩:∃n,prog.types.size=n+1:=⟨prog.types.size - 1,kr⟩;have hc:prog.cellsOf 93=3:=by kernel_rfl
  have b:prog.cellsOf 3=1:=by kernel_rfl
  have f:prog.keyType 93=true:=by kernel_rfl
  have hf:(Value.agg #[.int .i64 a0,.int .i64 a1,.int .i64 a2]).formed prog 93=true:=by kernel_rfl
  have g:prog.keyLits (prog.types.size+1) 93 [.int .i64 a0,.int .i64 a1,.int .i64 a2]=some [.int .i64 a0,.int .i64 a1,.int .i64 a2]:=by rw[e];unfold Program.keyLits;rw[underlying93];simp[hc,b,N9 underlying3 n h0,N9 underlying3 n c,N9 underlying3 n d]
  refine⟨.string (keyBytes [.int .i64 a0,.int .i64 a1,.int .i64 a2]),?_⟩;unfold keyOf;rw[underlying93];show (if prog.keyType 93&&(Value.agg #[.int .i64 a0,.int .i64 a1,.int .i64 a2]).formed prog 93 then (prog.keyLits (prog.types.size+1) 93 [.int .i64 a0,.int .i64 a1,.int .i64 a2]).map λh=>Lit.string (keyBytes h) else none)=_;rw[f,hf,g];rfl
@[reducible] def QF : Rep Qh := ⟨λx => [ti x.kind,ti x.field,ti x.to],3,true,λ_ => rfl,λ_ => onel,λh => (by cases h)⟩
abbrev zr93:Value:=.agg #[.int .i64 0,.int .i64 0,.int .i64 0]
def tok93:TOk prog 93 QF 24 zr93:=tk underlying93
abbrev zs93:=Qh.mk (0:Int) (0:Int) (0:Int)
def zc93:ZC QF zs93 zr93:=λ_ _=>zct
def zok93:ZO QF zs93 zr93:=λF w=>⟨_,rfl,zc93 F w⟩
def zv93:ZV 93 zr93:=zvk
def pl93:PL underlying93 #[(0,1),(1,1),(2,1)]:=λ_=>by kernel_rfl
def tok87:TOk prog 87 (rSl QF) 24 (.slice none 0 0):=tk underlying87
def tok36:TOk prog 36 (rSl QG) 24 (.slice none 0 0):=tk underlying36
structure Cv where
  x:Qc
  w:(List (List Lz))
  links:(List Qh)
  refs:(MpK Qh (List Lz))
  lives:(MpK Str Qm)
  out:(List Qy)
deriving Inhabited
@[reducible] def KC : Rep Cv := ⟨λx => Qb.cs x.x ++ [tsl (rSl (rSl rI)) x.w,tsl QF x.links,Bk (rSl (rSl rI)) x.refs,Bk Qs x.lives,tsl QG x.out],9,true,λ_ => rfl,λ_ => G6 (G7 Qb) (Qt DB (Qt DB (Qt OA (Qt OA (Qt DB Ae))))),λh => (by cases h)⟩
abbrev zr91:Value:=.agg #[.int .i64 0,.slice none 0 0,.slice none 0 0,.slice none 0 0,.slice none 0 0,.slice none 0 0,.map none,.map none,.slice none 0 0]
def zv91:ZV 91 zr91:=zvk
def pl91:PL underlying91 #[(0,4),(4,1),(5,1),(6,1),(7,1),(8,1)]:=λ_=>by kernel_rfl
def Wc:(∀F w,QW (Qb.cs (Qc.mk (0:Int) ([]:(List QA)) ([]:(List Qm)) ([]:(List QL)))++[tsl (rSl (rSl rI)) ([]:(List (List Lz))),tvs nilV,Bk (rSl (rSl rI)) (none:(MpK Qh (List Lz))),Bk Qs (none:(MpK Str Qm)),tvs nilV]) F w zr91.cells.toList)/\(Qb.cs (Qc.mk (0:Int) ([]:(List QA)) ([]:(List Qm)) ([]:(List QL)))++[tsl (rSl (rSl rI)) ([]:(List (List Lz))),tvs nilV,Bk (rSl (rSl rI)) (none:(MpK Qh (List Lz))),Bk Qs (none:(MpK Str Qm)),tvs nilV]).length=9/\KC.agg=true/\∃cs,zr91=.agg cs:=⟨λ_ _=>.cons rfl (.cons ⟨none,0,rfl,Nat.le_refl _,λh=>(h rfl).elim⟩ (.cons ⟨none,0,rfl,Nat.le_refl _,λh=>(h rfl).elim⟩ (.cons ⟨none,0,rfl,Nat.le_refl _,λh=>(h rfl).elim⟩ (.cons ⟨none,0,rfl,Nat.le_refl _,λh=>(h rfl).elim⟩ (.cons ⟨rfl,rfl⟩ (.cons rfl (.cons rfl (.cons ⟨rfl,rfl⟩ .nil)))))))),rfl,rfl,_,rfl⟩
@[reducible] def tF96 (p : ((List Lz) -> (List Lz) -> Option Bool)) : Ty := tfn prog [] (A := (List Lz) × (List Lz)) (B := Bool) (λx => [tsl (rSl rI) x.1,tsl (rSl rI) x.2]) (λy => tb y) (λx => p x.1 x.2)
@[reducible] def rF96 : Rep ((List Lz) -> (List Lz) -> Option Bool) := ⟨λp => [tF96 p],1,false,λ_ => rfl,λ_ => Qt Ct Ae,λ_ => rfl⟩
@[reducible] def tF100 (p : (Int -> Option Bool)) : Ty := tfn prog [] (A := Int) (B := Bool) (λx => [ti x]) (λy => tb y) p
@[reducible] def Eo : Rep (Int -> Option Bool) := ⟨λp => [tF100 p],1,false,λ_ => rfl,λ_ => Qt Ct Ae,λ_ => rfl⟩
theorem tok100:TOk prog 100 Eo 8 .nilFunc:=tk underlying100
structure QR where
  L:Lz
  I:Int
deriving Inhabited
@[reducible] def QC : Rep QR := ⟨λx => [tsl rI x.L,ti x.I],2,true,λ_ => rfl,λ_ => onel,λh => (by cases h)⟩
abbrev KD:Value:=.agg #[.slice none 0 0,.int .i64 0]
def Rk:TOk prog 110 QC 32 KD:=tk underlying110
abbrev We:=QR.mk ([]:Lz) (0:Int)
def zc110:ZC QC We KD:=λ_ _=>zct
def zv110:ZV 110 KD:=zvk
def pl110:PL underlying110 #[(0,1),(1,1)]:=λ_=>by kernel_rfl
structure Az where
  old:Lz
  used:Lz
  lo:Int
  hi:Int
deriving Inhabited
@[reducible] def OB : Rep Az := ⟨λx => [tsl rI x.old,tsl rI x.used,ti x.lo,ti x.hi],4,true,λ_ => rfl,λ_ => onel,λh => (by cases h)⟩
abbrev Rl:Value:=.agg #[.slice none 0 0,.slice none 0 0,.int .i64 0,.int .i64 0]
abbrev Wf:=Az.mk ([]:Lz) ([]:Lz) (0:Int) (0:Int)
def Wg:ZC OB Wf Rl:=λ_ _=>zct
def zv122:ZV 122 Rl:=zvk
def pl122:PL underlying122 #[(0,1),(1,1),(2,1),(3,1)]:=λ_=>by kernel_rfl
structure Qi where
  From:Int
  To:Int
  Lo:Int
  Hi:Int
  Cost:Int
deriving Inhabited
@[reducible] def QE : Rep Qi := ⟨λx => [ti x.From,ti x.To,ti x.Lo,ti x.Hi,ti x.Cost],5,true,λ_ => rfl,λ_ => onel,λh => (by cases h)⟩
abbrev G8:Value:=.agg #[.int .i64 0,.int .i64 0,.int .i64 0,.int .i64 0,.int .i64 0]
def Rm:TOk prog 187 QE 40 G8:=tk underlying187
abbrev OC:=Qi.mk (0:Int) (0:Int) (0:Int) (0:Int) (0:Int)
def zc187:ZC QE OC G8:=λ_ _=>zct
def zok187:ZO QE OC G8:=λF w=>⟨_,rfl,zc187 F w⟩
def zv187:ZV 187 G8:=zvk
def pl187:PL underlying187 #[(0,1),(1,1),(2,1),(3,1),(4,1)]:=λ_=>by kernel_rfl
def Rn:TOk prog 123 (rSl QE) 24 (.slice none 0 0):=tk underlying123
def Ro:TOk prog 128 (rSl AE) 24 (.slice none 0 0):=tk underlying128
def zok128:ZO (rSl AE) ([]:(List Bool)) (.slice none 0 0):=λ_ _=>⟨none,0,rfl,Nat.le_refl _,λh=>(h rfl).elim⟩
@[reducible] def tF140 (p : (Qm -> Option Bool)) : Ty := tfn prog [] (A := Qm) (B := Bool) (λx => [Qs.ty x]) (λy => tb y) p
@[reducible] def G9 : Rep (Qm -> Option Bool) := ⟨λp => [tF140 p],1,false,λ_ => rfl,λ_ => Qt Ct Ae,λ_ => rfl⟩
theorem tok140:TOk prog 140 G9 8 .nilFunc:=tk underlying140
structure QI where
  Xi:Int
  Field:Int
  Rule:Int
  Code:Int
deriving Inhabited
@[reducible] def BE : Rep QI := ⟨λx => [ti x.Xi,ti x.Field,ti x.Rule,ti x.Code],4,true,λ_ => rfl,λ_ => onel,λh => (by cases h)⟩
abbrev KE:Value:=.agg #[.int .i64 0,.int .i64 0,.int .i64 0,.int .i64 0]
def Rp:TOk prog 148 BE 32 KE:=tk underlying148
abbrev Wh:=QI.mk (0:Int) (0:Int) (0:Int) (0:Int)
def zc148:ZC BE Wh KE:=λ_ _=>zct
def zv148:ZV 148 KE:=zvk
def pl148:PL underlying148 #[(0,1),(1,1),(2,1),(3,1)]:=λ_=>by kernel_rfl
@[reducible] def tF150 (p : (Lz -> Option Bool)) : Ty := tfn prog [] (A := Lz) (B := Bool) (λx => [tsl rI x]) (λy => tb y) p
@[reducible] def Rr : Rep (Lz -> Option Bool) := ⟨λp => [tF150 p],1,false,λ_ => rfl,λ_ => Qt Ct Ae,λ_ => rfl⟩
@[reducible] def tF159 (p : (QA -> Option Bool)) : Ty := tfn prog [] (A := QA) (B := Bool) (λx => [Qq.ty x]) (λy => tb y) p
@[reducible] def HA : Rep (QA -> Option Bool) := ⟨λp => [tF159 p],1,false,λ_ => rfl,λ_ => Qt Ct Ae,λ_ => rfl⟩
theorem tok159:TOk prog 159 HA 8 .nilFunc:=tk underlying159
structure QT where
  Xi:Int
  Field:Int
  Rule:Int
  Code:Int
deriving Inhabited
@[reducible] def At : Rep QT := ⟨λx => [ti x.Xi,ti x.Field,ti x.Rule,ti x.Code],4,true,λ_ => rfl,λ_ => onel,λh => (by cases h)⟩
abbrev KF:Value:=.agg #[.int .i64 0,.int .i64 0,.int .i64 0,.int .i64 0]
def Rs:TOk prog 163 At 32 KF:=tk underlying163
abbrev Wi:=QT.mk (0:Int) (0:Int) (0:Int) (0:Int)
def zc163:ZC At Wi KF:=λ_ _=>zct
def zv163:ZV 163 KF:=zvk
def pl163:PL underlying163 #[(0,1),(1,1),(2,1),(3,1)]:=λ_=>by kernel_rfl
structure Qg where
  edge:Int
  from':Int
  to:Int
  cost:Int
  forward:Int
deriving Inhabited
@[reducible] def Qv : Rep Qg := ⟨λx => [ti x.edge,ti x.from',ti x.to,ti x.cost,ti x.forward],5,true,λ_ => rfl,λ_ => onel,λh => (by cases h)⟩
abbrev HB:Value:=.agg #[.int .i64 0,.int .i64 0,.int .i64 0,.int .i64 0,.int .i64 0]
def F7:TOk prog 256 Qv 40 HB:=tk underlying256
abbrev OD:=Qg.mk (0:Int) (0:Int) (0:Int) (0:Int) (0:Int)
def zc256:ZC Qv OD HB:=λ_ _=>zct
def HC:ZO Qv OD HB:=λF w=>⟨_,rfl,zc256 F w⟩
def zv256:ZV 256 HB:=zvk
def pl256:PL underlying256 #[(0,1),(1,1),(2,1),(3,1),(4,1)]:=λ_=>by kernel_rfl
def Rt:TOk prog 195 (rSl Qv) 24 (.slice none 0 0):=tk underlying195
structure Qw where
  n:Int
  l:(List Qi)
  flow:Lz
  arcs:(List Qg)
deriving Inhabited
@[reducible] def HD : Rep Qw := ⟨λx => [ti x.n,tsl QE x.l,tsl rI x.flow,tsl Qv x.arcs],4,true,λ_ => rfl,λ_ => onel,λh => (by cases h)⟩
abbrev OE:Value:=.agg #[.int .i64 0,.slice none 0 0,.slice none 0 0,.slice none 0 0]
def zv197:ZV 197 OE:=zvk
def pl197:PL underlying197 #[(0,1),(1,1),(2,1),(3,1)]:=λ_=>by kernel_rfl
def Wj:(∀F w,QW ([ti (0:Int),tsl QE ([]:(List Qi)),tsl rI ([]:Lz),tvs nilV]) F w OE.cells.toList)/\([ti (0:Int),tsl QE ([]:(List Qi)),tsl rI ([]:Lz),tvs nilV]).length=4/\HD.agg=true/\∃cs,OE=.agg cs:=⟨λ_ _=>.cons rfl (.cons ⟨none,0,rfl,Nat.le_refl _,λh=>(h rfl).elim⟩ (.cons ⟨none,0,rfl,Nat.le_refl _,λh=>(h rfl).elim⟩ (.cons ⟨rfl,rfl⟩ .nil))),rfl,rfl,_,rfl⟩
structure QH where
  A:Int
  B:Int
  N:Int
deriving Inhabited
@[reducible] def B7 : Rep QH := ⟨λx => [ti x.A,ti x.B,ti x.N],3,true,λ_ => rfl,λ_ => onel,λh => (by cases h)⟩
abbrev HE:Value:=.agg #[.int .i64 0,.int .i64 0,.int .i64 0]
def Ru:TOk prog 207 B7 24 HE:=tk underlying207
abbrev OF:=QH.mk (0:Int) (0:Int) (0:Int)
def zc207:ZC B7 OF HE:=λ_ _=>zct
def zok207:ZO B7 OF HE:=λF w=>⟨_,rfl,zc207 F w⟩
def zv207:ZV 207 HE:=zvk
def pl207:PL underlying207 #[(0,1),(1,1),(2,1)]:=λ_=>by kernel_rfl
structure Q6 where
  a0:Bool
  a1:Bool
  a2:Bool
  a3:Bool
  a4:Bool
  a5:Bool
  a6:Bool
  a7:Bool
  a8:Bool
  a9:Bool
  a10:Bool
  a11:Bool
deriving Inhabited
@[reducible] def Q8 : Rep Q6 := ⟨λx => [tb x.a0,tb x.a1,tb x.a2,tb x.a3,tb x.a4,tb x.a5,tb x.a6,tb x.a7,tb x.a8,tb x.a9,tb x.a10,tb x.a11],12,true,λ_ => rfl,λ_ => onel,λh => (by cases h)⟩
@[reducible] def Q6.L (a : Q6) : List Bool := [a.a0,a.a1,a.a2,a.a3,a.a4,a.a5,a.a6,a.a7,a.a8,a.a9,a.a10,a.a11]
def Q6.setI (a:Q6) (i:Int) (v:Bool):Q6:=match i.toNat with | 0=>{ a with a0:=v } | 1=>{ a with a1:=v } | 2=>{ a with a2:=v } | 3=>{ a with a3:=v } | 4=>{ a with a4:=v } | 5=>{ a with a5:=v } | 6=>{ a with a6:=v } | 7=>{ a with a7:=v } | 8=>{ a with a8:=v } | 9=>{ a with a9:=v } | 10=>{ a with a10:=v } | 11=>{ a with a11:=v } | _=>a
def Q6.spl {pre post:List Ty} {a:Q6} {i:Int} {v u:Bool} {o:Nat} (c:pre.length=o) (h:idx a.L i=some u):splice (pre++Q8.cs a++post) (o+i.toNat) (AE.cs v)=pre++Q8.cs (a.setI i v)++post:=by
  have b:=(idx_lt' h).2.1;unfold Q6.setI;revert b;generalize i.toNat=k;intro b;apply Wl c (show k+1<=12 from b)
  match k,b with
  | 0,_=>rfl
  | 1,_=>rfl
  | 2,_=>rfl
  | 3,_=>rfl
  | 4,_=>rfl
  | 5,_=>rfl
  | 6,_=>rfl
  | 7,_=>rfl
  | 8,_=>rfl
  | 9,_=>rfl
  | 10,_=>rfl
  | 11,_=>rfl
abbrev HF:Value:=.agg #[.bool false,.bool false,.bool false,.bool false,.bool false,.bool false,.bool false,.bool false,.bool false,.bool false,.bool false,.bool false]
def OG:TOk prog 216 Q8 12 HF:=tk underlying216
abbrev OH:=Q6.mk false false false false false false false false false false false false
def zc216:ZC Q8 OH HF:=λ_ _=>zct
def zok216:ZO Q8 OH HF:=λF w=>⟨_,rfl,zc216 F w⟩
def zv216:ZV 216 HF:=zvk
@[reducible] def tF221 (p : (Qe -> Option Bool)) : Ty := tfn prog [] (A := Qe) (B := Bool) (λx => [Qd.ty x]) (λy => tb y) p
@[reducible] def HG : Rep (Qe -> Option Bool) := ⟨λp => [tF221 p],1,false,λ_ => rfl,λ_ => Qt Ct Ae,λ_ => rfl⟩
theorem tok221:TOk prog 221 HG 8 .nilFunc:=tk underlying221
structure A1 where
  is:Bool
  code:Int
deriving Inhabited
@[reducible] def Ep : Rep A1 := ⟨λx => [tb x.is,ti x.code],2,true,λ_ => rfl,λ_ => onel,λh => (by cases h)⟩
abbrev HH:Value:=.agg #[.bool false,.int .i64 0]
def Rv:TOk prog 229 Ep 16 HH:=tk underlying229
abbrev OI:=A1.mk false (0:Int)
def zc229:ZC Ep OI HH:=λ_ _=>zct
def zok229:ZO Ep OI HH:=λF w=>⟨_,rfl,zc229 F w⟩
def zv229:ZV 229 HH:=zvk
def pl229:PL underlying229 #[(0,1),(1,1)]:=λ_=>by kernel_rfl
structure Ba where
  x:Qc
  kind:Int
  field:Int
  f:Qe
deriving Inhabited
@[reducible] def Cw : Rep Ba := ⟨λx => Qb.cs x.x ++ [ti x.kind,ti x.field] ++ Qd.cs x.f,14,true,λ_ => rfl,λ_ => G6 (G6 (G7 Qb) (Qt (QZ rfl) (Qt (QZ rfl) Ae))) (G7 Qd),λh => (by cases h)⟩
abbrev KG:Value:=.agg #[.int .i64 0,.slice none 0 0,.slice none 0 0,.slice none 0 0,.int .i64 0,.int .i64 0,.string .empty,.string .empty,.string .empty,.int .i64 0,.int .i64 0,.int .i64 0,.slice none 0 0,.slice none 0 0]
def Rw:TOk prog 236 Cw 216 KG:=tk underlying236
abbrev Wm:=Ba.mk (Qc.mk (0:Int) ([]:(List QA)) ([]:(List Qm)) ([]:(List QL))) (0:Int) (0:Int) (Qe.mk ([]:Str) ([]:Str) ([]:Str) (0:Int) (0:Int) (0:Int) ([]:(List Str)) ([]:Lz))
def zc236:ZC Cw Wm KG:=λ_ _=>zct
def zv236:ZV 236 KG:=zvk
def pl236:PL underlying236 #[(0,4),(4,1),(5,1),(6,8)]:=λ_=>by kernel_rfl
@[reducible] def tF231 (p : (Ba -> Option Int)) : Ty := tfn prog [] (A := Ba) (B := Int) (λx => [Cw.ty x]) (λy => ti y) p
@[reducible] def rF231 : Rep (Ba -> Option Int) := ⟨λp => [tF231 p],1,false,λ_ => rfl,λ_ => Qt Ct Ae,λ_ => rfl⟩
@[reducible] def Rx : Rep (Option (Ba -> Option Int)) := ⟨λp => [tfo tF231 p],1,false,λ_ => rfl,λ_ => Qt (Ry (λ_ => Ct)) Ae,λ_ => rfl⟩
theorem Rz:TOk prog 231 rF231 8 .nilFunc:=tk underlying231
def Wn:TOk prog 231 Rx 8 .nilFunc:=tk underlying231
structure DO where
  check:(Option (Ba->Option Int))
instance :Inhabited DO:=⟨⟨none⟩⟩
@[reducible] def D9 : Rep DO := ⟨λx => [Rx.ty x.check],1,true,λ_ => rfl,λ_ => Qt (Ry (λ_ => Ct)) Ae,λh => (by cases h)⟩
theorem Wo:TOk prog 232 D9 8 (.agg #[.nilFunc]):=tk underlying232
abbrev zs232:=DO.mk none
def zc232:ZC D9 zs232 (.agg #[.nilFunc]):=λ_ _=>zct
def zok232:ZO D9 zs232 (.agg #[.nilFunc]):=λF w=>⟨_,rfl,zc232 F w⟩
def zv232:ZV 232 (.agg #[.nilFunc]):=zvk
structure QK where
  A:Int
  B:Int
  Mul:Int
  Xh:Bool
deriving Inhabited
@[reducible] def BL : Rep QK := ⟨λx => [ti x.A,ti x.B,ti x.Mul,tb x.Xh],4,true,λ_ => rfl,λ_ => onel,λh => (by cases h)⟩
abbrev KH:Value:=.agg #[.int .i64 0,.int .i64 0,.int .i64 0,.bool false]
def Rq:TOk prog 250 BL 32 KH:=tk underlying250
abbrev Wp:=QK.mk (0:Int) (0:Int) (0:Int) false
def zc250:ZC BL Wp KH:=λ_ _=>zct
def zv250:ZV 250 KH:=zvk
def pl250:PL underlying250 #[(0,1),(1,1),(2,1),(3,1)]:=λ_=>by kernel_rfl
@[reducible] def tF253 (p : (Qi -> Option Bool)) : Ty := tfn prog [] (A := Qi) (B := Bool) (λx => [QE.ty x]) (λy => tb y) p
@[reducible] def R0 : Rep (Qi -> Option Bool) := ⟨λp => [tF253 p],1,false,λ_ => rfl,λ_ => Qt Ct Ae,λ_ => rfl⟩
structure BM where
  a:Int
  b:Int
  n:Int
deriving Inhabited
@[reducible] def Bm : Rep BM := ⟨λx => [ti x.a,ti x.b,ti x.n],3,true,λ_ => rfl,λ_ => onel,λh => (by cases h)⟩
abbrev HI:Value:=.agg #[.int .i64 0,.int .i64 0,.int .i64 0]
def R1:TOk prog 270 Bm 24 HI:=tk underlying270
abbrev OJ:=BM.mk (0:Int) (0:Int) (0:Int)
def zc270:ZC Bm OJ HI:=λ_ _=>zct
def zok270:ZO Bm OJ HI:=λF w=>⟨_,rfl,zc270 F w⟩
def zv270:ZV 270 HI:=zvk
def pl270:PL underlying270 #[(0,1),(1,1),(2,1)]:=λ_=>by kernel_rfl
@[reducible] def tF272 (p : (AS -> Option Bool)) : Ty := tfn prog [] (A := AS) (B := Bool) (λx => [Af.ty x]) (λy => tb y) p
@[reducible] def HJ : Rep (AS -> Option Bool) := ⟨λp => [tF272 p],1,false,λ_ => rfl,λ_ => Qt Ct Ae,λ_ => rfl⟩
theorem tok272:TOk prog 272 HJ 8 .nilFunc:=tk underlying272
@[reducible] def tF276 (p : (QL -> Option Bool)) : Ty := tfn prog [] (A := QL) (B := Bool) (λx => [QV.ty x]) (λy => tb y) p
@[reducible] def HK : Rep (QL -> Option Bool) := ⟨λp => [tF276 p],1,false,λ_ => rfl,λ_ => Qt Ct Ae,λ_ => rfl⟩
theorem tok276:TOk prog 276 HK 8 .nilFunc:=tk underlying276
@[reducible] def tF286 (p : (Str -> Option Bool)) : Ty := tfn prog [] (A := Str) (B := Bool) (λx => [tv (.string (sB x))]) (λy => tb y) p
@[reducible] def HL : Rep (Str -> Option Bool) := ⟨λp => [tF286 p],1,false,λ_ => rfl,λ_ => Qt Ct Ae,λ_ => rfl⟩
theorem tok286:TOk prog 286 HL 8 .nilFunc:=tk underlying286
@[reducible] def tF318 (p : (Int -> Option Bool)) : Ty := tfn prog [] (A := Int) (B := Bool) (λx => [tv (.int .u8 x)]) (λy => tb y) p
@[reducible] def R3 : Rep (Int -> Option Bool) := ⟨λp => [tF318 p],1,false,λ_ => rfl,λ_ => Qt Ct Ae,λ_ => rfl⟩
def Ak:TOk prog 22 rVal 24 (.slice none 0 0):=tk underlying22
def tokV23:TOk prog 23 rVal 24 (.slice none 0 0):=tk underlying23
def tokV24:TOk prog 24 rVal 24 (.slice none 0 0):=tk underlying24
def R4:TOk prog 25 rVal 24 (.slice none 0 0):=tk underlying25
def tokV29:TOk prog 29 rVal 24 (.slice none 0 0):=tk underlying29
def tokV36:TOk prog 36 rVal 24 (.slice none 0 0):=tk underlying36
def R5:TOk prog 39 rVal 24 (.slice none 0 0):=tk underlying39
def Bb:TOk prog 51 rVal 24 (.slice none 0 0):=tk underlying51
def tokV87:TOk prog 87 rVal 24 (.slice none 0 0):=tk underlying87
def tokV88:TOk prog 88 rVal 8 (.map none):=tk underlying88
def R6:TOk prog 89 rVal 8 (.map none):=tk underlying89
def Wr:TOk prog 101 rVal 24 (.slice none 0 0):=tk underlying101
def R7:TOk prog 128 rVal 24 (.slice none 0 0):=tk underlying128
def R8:TOk prog 145 rVal 24 (.slice none 0 0):=tk underlying145
def Ws:TOk prog 195 rVal 24 (.slice none 0 0):=tk underlying195
def Wt:Qz prog 27 0 0:=fl underlying27 tok3
def Er:Qz prog 27 1 1:=fl underlying27 N3
def OL:Qz prog 27 2 2:=fl underlying27 KA
def Wu:Qz prog 27 3 3:=fl underlying27 tok25
def Wv:Qz prog 41 0 0:=fl underlying41 tok9
def Ww:Qz prog 41 1 1:=fl underlying41 tok3
def Wx:Qz prog 41 2 2:=fl underlying41 tok3
def Wy:Qz prog 41 3 3:=fl underlying41 tok39
def Wz:Qz prog 44 0 0:=fl underlying44 tok9
def R9:Qz prog 44 1 1:=fl underlying44 tok9
def SA:Qz prog 44 2 2:=fl underlying44 tok9
def IK:Qz prog 44 3 3:=fl underlying44 tok3
def Wq:Qz prog 44 4 4:=fl underlying44 tok3
def W2:Qz prog 44 5 5:=fl underlying44 tok3
def W3:Qz prog 44 6 6:=fl underlying44 N1
def W4:Qz prog 44 7 7:=fl underlying44 B6
def W5:Qz prog 60 0 0:=fl underlying60 B6
def W6:Qz prog 68 0 0:=fl underlying68 D8
def W7:Qz prog 68 1 4:=fl underlying68 KB
def W8:Qz prog 68 2 5:=fl underlying68 KB
def W9:Qz prog 78 0 0:=fl underlying78 tok3
def XA:Qz prog 78 3 3:=fl underlying78 IJ
def XB:Qz prog 84 0 0:=fl underlying84 tok9
def XC:Qz prog 84 1 1:=fl underlying84 tok9
def XD:Qz prog 84 2 2:=fl underlying84 tok9
def XE:Qz prog 84 3 3:=fl underlying84 tok9
def XF:Qz prog 84 4 4:=fl underlying84 tok3
def XG:Qz prog 91 0 0:=fl underlying91 D8
def XH:Qz prog 91 1 4:=fl underlying91 KB
def XI:Qz prog 91 2 5:=fl underlying91 tok87
def tok88:TOk prog 88 (rMpK (κ:=Qh) (rSl (rSl rI))) 8 (.map none):=tk underlying88
def XJ:Qz prog 91 3 6:=fl underlying91 tok88
def tok89:TOk prog 89 (rMpK (κ:=Str) Qs) 8 (.map none):=tk underlying89
def SB:Qz prog 91 4 7:=fl underlying91 tok89
def XK:Qz prog 91 5 8:=fl underlying91 tok36
def XL:Qz prog 93 0 0:=fl underlying93 tok3
def XM:Qz prog 93 1 1:=fl underlying93 tok3
def XN:Qz prog 93 2 2:=fl underlying93 tok3
def SC:Qz prog 103 0 0:=fl underlying103 tok9
def XO:Qz prog 103 1 1:=fl underlying103 N1
def XP:Qz prog 103 2 2:=fl underlying103 Ri
def XR:Qz prog 110 0 0:=fl underlying110 B6
def XS:Qz prog 110 1 1:=fl underlying110 tok3
def XT:Qz prog 122 0 0:=fl underlying122 B6
def XU:Qz prog 122 1 1:=fl underlying122 B6
def XV:Qz prog 122 2 2:=fl underlying122 tok3
def XW:Qz prog 122 3 3:=fl underlying122 tok3
def XX:Qz prog 148 3 3:=fl underlying148 IJ
def XY:Qz prog 163 3 3:=fl underlying163 IJ
def XZ:Qz prog 187 0 0:=fl underlying187 tok3
def XQ:Qz prog 187 1 1:=fl underlying187 tok3
def Xu:Qz prog 187 2 2:=fl underlying187 tok3
def Xv:Qz prog 187 3 3:=fl underlying187 tok3
def Xw:Qz prog 187 4 4:=fl underlying187 tok3
def Xx:Qz prog 197 0 0:=fl underlying197 tok3
def Xy:Qz prog 197 1 1:=fl underlying197 Rn
def Xz:Qz prog 197 2 2:=fl underlying197 B6
def X0:Qz prog 197 3 3:=fl underlying197 Rt
def X1:Qz prog 207 0 0:=fl underlying207 tok3
def X2:Qz prog 207 1 1:=fl underlying207 tok3
def X3:Qz prog 207 2 2:=fl underlying207 tok3
def X4:Qz prog 229 0 0:=fl underlying229 tok4
def X5:Qz prog 229 1 1:=fl underlying229 IJ
def X6:Qz prog 232 0 0:=fl underlying232 Rz
def X7:Qz prog 236 0 0:=fl underlying236 D8
def X8:Qz prog 236 1 4:=fl underlying236 tok3
def X9:Qz prog 236 2 5:=fl underlying236 tok3
def YD:Qz prog 236 3 6:=fl underlying236 Em
def YE:Qz prog 250 0 0:=fl underlying250 tok3
def YF:Qz prog 250 1 1:=fl underlying250 tok3
def YG:Qz prog 250 2 2:=fl underlying250 tok3
def YH:Qz prog 250 3 3:=fl underlying250 tok4
def YI:Qz prog 256 0 0:=fl underlying256 tok3
def YJ:Qz prog 256 1 1:=fl underlying256 tok3
def YK:Qz prog 256 2 2:=fl underlying256 tok3
def YL:Qz prog 256 3 3:=fl underlying256 tok3
def YM:Qz prog 256 4 4:=fl underlying256 tok3
def YN:Qz prog 270 0 0:=fl underlying270 tok3
def YO:Qz prog 270 1 1:=fl underlying270 tok3
def YP:Qz prog 270 2 2:=fl underlying270 tok3
def SD:∀x,DC (Qv.ty x):=λx=>YR (by intro T h;simp at h;rcases h with h | h | h | h | h<;>subst h<;>exact Ah)
def YS:SE prog 256 1 1:=⟨_,_,_,underlying256,rfl,rfl,underlying3,rfl⟩
def tok192:TOk prog 192 (rMp Qv) 8 (.map none):=tk underlying192
def SF:TOk prog 100 rVal 8 .nilFunc:=tk underlying100
def FM:TOk prog 74 rVal 8 (.pointer none):=tk underlying74
def EA:TOk prog 119 rVal 8 (.pointer none):=tk underlying119
def SG:TOk prog 189 rVal 8 (.pointer none):=tk underlying189
@[reducible] def bxM (x : Qc) (o : List (List Lz)) (v q : Value) : Atom := box (Qb.cs x ++ [tsl (rSl (rSl rI)) o,tvs v]) q
@[reducible] def bxC (x : Qc) (w : List (List Lz)) (l : List Qh) (r : MpK Qh (List Lz)) (m : MpK Str Qm) (v q : Value) : Atom := box (Qb.cs x ++ [tsl (rSl (rSl rI)) w,tsl QF l,Bk (rSl (rSl rI)) r,Bk Qs m,tvs v]) q
@[reducible] def bxN (n : Int) (l : List Qi) (v : Value) (a : List Qg) (q : Value) : Atom := box ([ti n,tsl QE l,tvs v,tsl Qv a]) q
section
variable {M:Fr} {w0:World} {Γ:List (Nat×Ty)} {As:List Atom} {a:Act} {w:World}
def _root_.Go.Sim.St.t1_0 {x0:Nat×Ty} (h:St M w0 n Γ As a w) (b:List Nat) (p:Cc Γ b=[x0]:=by exact rfl) (q:As=[]:=by exact rfl):St M w0 n [x0] [] a w:=h.to b _ _ p q
def _root_.Go.Sim.St.t7_0 {x0 b c d e f g:Nat×Ty} (h:St M w0 n Γ As a w) (i:List Nat) (p:Cc Γ i=[x0,b,c,d,e,f,g]:=by exact rfl) (q:As=[]:=by exact rfl):St M w0 n [x0,b,c,d,e,f,g] [] a w:=h.to i _ _ p q
end
abbrev zz0:Qe:=Qe.mk ([]:Str) ([]:Str) ([]:Str) (0:Int) (0:Int) (0:Int) ([]:(List Str)) ([]:Lz)
abbrev zz1:QA:=QA.mk ([]:Str) (0:Int) (0:Int) ([]:(List Qe))
abbrev zz2:Qm:=Qm.mk ([]:Str) ([]:(List Str)) ([]:(List AS))
abbrev zz3:QL:=QL.mk ([]:Str) ([]:Str) ([]:Str) ([]:Str) (0:Int)
abbrev zz4:Qc:=Qc.mk (0:Int) ([]:(List QA)) ([]:(List Qm)) ([]:(List QL))
abbrev zz5:BQ:=BQ.mk ([]:Lz) ([]:Lz)
abbrev zz6:Qg:=Qg.mk (0:Int) (0:Int) (0:Int) (0:Int) (0:Int)
abbrev zz7:Q6:=Q6.mk false false false false false false false false false false false false
abbrev FO:=underlying192
abbrev IL:=underlying205
abbrev HM:=underlying216
abbrev ud22:=underlying22
abbrev ud29:=underlying29
abbrev IM:=underlying291
abbrev ud3:=underlying3
abbrev ud44:=underlying44
abbrev ud5:=underlying5
abbrev ud51:=underlying51
abbrev ud81:=underlying81
abbrev ud9:=underlying9

/- What the rows of this seat give of the listed variables. No condition. -/
import Derived.Test.YtohojolgolinoaaGreatDoorBase
import Derived.Test.YtohojolgolinoaaGreatDoorSimT
set_option linter.all false
open List Go.Proofs.Tryz
namespace Go.Proofs.YtohojolgolinoaaGreatDoor
open Go.Sim
def NK:List Fent:=[⟨0,100,[105,111,114,97,109,97,47,116,121,112,105,110,103,46,99,104,101,99,107,115,36,49],303⟩,⟨1,100,[105,111,114,97,109,97,47,116,121,112,105,110,103,46,99,104,101,99,107,115,36,50],304⟩,⟨4,100,[105,111,114,97,109,97,47,116,121,112,105,110,103,46,99,104,101,99,107,115,36,51],305⟩,⟨5,100,[105,111,114,97,109,97,47,116,121,112,105,110,103,46,99,104,101,99,107,115,36,52],306⟩,⟨6,100,[105,111,114,97,109,97,47,116,121,112,105,110,103,46,99,104,101,99,107,115,36,53],308⟩,⟨7,100,[105,111,114,97,109,97,47,116,121,112,105,110,103,46,99,104,101,99,107,115,36,54],309⟩,⟨8,100,[105,111,114,97,109,97,47,116,121,112,105,110,103,46,99,104,101,99,107,115,36,55],311⟩]
theorem iC:NK.map Fent.ent=D7:=rfl
theorem iD:∀i v v',(Value.int .i64 i,v)∈D7->(Value.int .i64 i,v')∈D7->v=v':=by
  intro i v v' h a
  simp only[D7,mem_cons,not_mem_nil,or_false,Prod.mk.injEq,Value.int.injEq,true_and] at h a
  rcases h with⟨h,rfl⟩ | ⟨h,rfl⟩ | ⟨h,rfl⟩ | ⟨h,rfl⟩ | ⟨h,rfl⟩ | ⟨h,rfl⟩ | ⟨h,rfl⟩<;>rcases a with⟨a,rfl⟩ | ⟨a,rfl⟩ | ⟨a,rfl⟩ | ⟨a,rfl⟩ | ⟨a,rfl⟩ | ⟨a,rfl⟩ | ⟨a,rfl⟩<;>first | rfl | omega
theorem iE:∀d∈NK,((range prog.funcs.size).filter λf=>(prog.funcs[f]?).any (·.name.toUTF8.data.toList==d.b::d.r))=[d.f]:=by
  intro d a
  simp only[NK,mem_cons,not_mem_nil,or_false] at a
  rcases a with rfl | rfl | rfl | rfl | rfl | rfl | rfl<;>kernel_rfl
set_option maxRecDepth 100000 in
theorem eC {W:World} (h:laidMetH prog Rows.editKeptRow.laid W):glo.ok (free (λ_=>False) W) W:=by
  have hf:=h.funcs (Mem.tail _ (Mem.tail _ (Mem.tail _ (Mem.tail _ (Mem.head _)))))
  have⟨⟨P,⟨g0,t0,a,f0,Q,R,c,l,m,n,⟨g1,t1,d,f1,S,T,e,o,q,r,⟨g2,t2,f,f2,U,V,g,s,t,u,⟨g3,t3,i,f3,X,Y,j,v,w,x,_,_⟩,_⟩,_⟩,_⟩,_,_⟩,_⟩:=h
  have⟨I,t4,K,f4,Z,k,y,A,B⟩:=hf
  obtain rfl:3=g0:=Option.some.inj ((by kernel_rfl:_=some 3).symm.trans c)
  obtain rfl:352=t0:=Option.some.inj ((by kernel_rfl:_=some 352).symm.trans l)
  obtain rfl:4=g1:=Option.some.inj ((by kernel_rfl:_=some 4).symm.trans e)
  obtain rfl:353=t1:=Option.some.inj ((by kernel_rfl:_=some 353).symm.trans o)
  obtain rfl:2=g2:=Option.some.inj ((by kernel_rfl:_=some 2).symm.trans g)
  obtain rfl:350=t2:=Option.some.inj ((by kernel_rfl:_=some 350).symm.trans s)
  obtain rfl:1=g3:=Option.some.inj ((by kernel_rfl:_=some 1).symm.trans j)
  obtain rfl:325=t3:=Option.some.inj ((by kernel_rfl:_=some 325).symm.trans v)
  obtain rfl:0=I:=Option.some.inj ((by kernel_rfl:_=some 0).symm.trans k)
  obtain rfl:234=t4:=Option.some.inj ((by kernel_rfl:_=some 234).symm.trans y)
  have L:f.toList=Nv.map λz=>Value.int .u64 z:=Lib.cells_of_tab (zs:=Nv) underlying350 underlying266 kr kr u
  have M:i.toList=G4.map λz=>Value.string (sB z):=iF (zs:=G4) underlying325 underlying9 kr kr x
  have N:a.toList=Ny.map λz=>Value.int .u8 z:=Lib.cells_of_tab (zs:=Ny) underlying352 underlying5 kr kr n
  have O:d.toList=Nz.map λz=>Value.int .u8 z:=Lib.cells_of_tab (zs:=Nz) underlying353 underlying5 kr kr r
  have⟨b,es,C,E,hb,F,H⟩:=iG (D:=NK) underlying234 underlying3 underlying232 rfl underlying231 kr kr iE B
  rw[iC] at F H
  intro p hp
  simp only[mem_cons,not_mem_nil,or_false] at hp
  rcases hp with rfl | rfl | rfl | rfl | rfl
  · exact iH k A E hb rfl iD F H
  · exact Ja (cs:=i.toList) j (sa w) (by rw[M];exact iI _)
  · exact Ja (cs:=f.toList) g (sa t) (by rw[L];exact Px _)
  · exact Ja (cs:=a.toList) c (sa m) (by rw[N];exact Px _)
  · exact Ja (cs:=d.toList) e (sa q) (by rw[O];exact Px _)

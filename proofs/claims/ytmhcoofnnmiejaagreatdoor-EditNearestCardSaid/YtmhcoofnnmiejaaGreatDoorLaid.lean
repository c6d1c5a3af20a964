/- What the rows of this seat give of the listed variables. No condition. -/
import Derived.Test.YtmhcoofnnmiejaaGreatDoorBase
import Derived.Test.YtmhcoofnnmiejaaGreatDoorSimT
set_option linter.all false
open List Go.Proofs.Tryz
namespace Go.Proofs.YtmhcoofnnmiejaaGreatDoor
open Go.Sim
def Qsb:List Fent:=[⟨0,100,[105,111,114,97,109,97,47,116,121,112,105,110,103,46,99,104,101,99,107,115,36,49],261⟩,⟨1,100,[105,111,114,97,109,97,47,116,121,112,105,110,103,46,99,104,101,99,107,115,36,50],262⟩,⟨4,100,[105,111,114,97,109,97,47,116,121,112,105,110,103,46,99,104,101,99,107,115,36,51],263⟩,⟨5,100,[105,111,114,97,109,97,47,116,121,112,105,110,103,46,99,104,101,99,107,115,36,52],264⟩,⟨6,100,[105,111,114,97,109,97,47,116,121,112,105,110,103,46,99,104,101,99,107,115,36,53],266⟩,⟨7,100,[105,111,114,97,109,97,47,116,121,112,105,110,103,46,99,104,101,99,107,115,36,54],267⟩,⟨8,100,[105,111,114,97,109,97,47,116,121,112,105,110,103,46,99,104,101,99,107,115,36,55],269⟩]
theorem Qz2:Qsb.map Fent.ent=QjJ:=rfl
theorem QCj:∀i v b,(Value.int .i64 i,v)∈QjJ->(Value.int .i64 i,b)∈QjJ->v=b:=by
  intro i v b h a
  simp only[QjJ,mem_cons,not_mem_nil,or_false,Prod.mk.injEq,Value.int.injEq,true_and] at h a
  rcases h with⟨h,rfl⟩ | ⟨h,rfl⟩ | ⟨h,rfl⟩ | ⟨h,rfl⟩ | ⟨h,rfl⟩ | ⟨h,rfl⟩ | ⟨h,rfl⟩<;>rcases a with⟨a,rfl⟩ | ⟨a,rfl⟩ | ⟨a,rfl⟩ | ⟨a,rfl⟩ | ⟨a,rfl⟩ | ⟨a,rfl⟩ | ⟨a,rfl⟩<;>first | rfl | omega
theorem Qw6:∀d∈Qsb,((range prog.funcs.size).filter λf=>(prog.funcs[f]?).any (·.name.toUTF8.data.toList==d.b::d.r))=[d.f]:=by
  intro d a
  simp only[Qsb,mem_cons,not_mem_nil,or_false] at a
  rcases a with rfl | rfl | rfl | rfl | rfl | rfl | rfl<;>kernel_rfl
set_option maxRecDepth 100000 in
theorem Quw {W:World} (h:laidMetH prog Rows.editNearestRow.laid W):glo.ok (free (λ_=>False) W) W:=by
  have hf:=h.funcs (Mem.tail _ (Mem.tail _ (Mem.tail _ (Mem.tail _ (Mem.head _)))))
  obtain⟨⟨P,⟨g0,t0,a,f0,Q,R,c,l,m,n,⟨g1,t1,d,f1,S,T,e,o,q,r,⟨g2,t2,f,f2,U,V,g,s,t,u,⟨g3,t3,i,f3,X,Y,j,v,w,x,_,_⟩,_⟩,_⟩,_⟩,_,_⟩,_⟩:=h
  obtain⟨I,t4,K,f4,Z,k,y,A,B⟩:=hf
  obtain rfl:3=g0:=Option.some.inj ((by kernel_rfl:_=some 3).symm.trans c)
  obtain rfl:324=t0:=Option.some.inj ((by kernel_rfl:_=some 324).symm.trans l)
  obtain rfl:4=g1:=Option.some.inj ((by kernel_rfl:_=some 4).symm.trans e)
  obtain rfl:325=t1:=Option.some.inj ((by kernel_rfl:_=some 325).symm.trans o)
  obtain rfl:2=g2:=Option.some.inj ((by kernel_rfl:_=some 2).symm.trans g)
  obtain rfl:322=t2:=Option.some.inj ((by kernel_rfl:_=some 322).symm.trans s)
  obtain rfl:1=g3:=Option.some.inj ((by kernel_rfl:_=some 1).symm.trans j)
  obtain rfl:308=t3:=Option.some.inj ((by kernel_rfl:_=some 308).symm.trans v)
  obtain rfl:0=I:=Option.some.inj ((by kernel_rfl:_=some 0).symm.trans k)
  obtain rfl:244=t4:=Option.some.inj ((by kernel_rfl:_=some 244).symm.trans y)
  have L:f.toList=QsB.map λz=>Value.int .u64 z:=Lib.cells_of_tab (zs:=QsB) underlying322 underlying221 (by kernel_rfl) (by kernel_rfl) u
  have M:i.toList=QlZ.map λz=>Value.string (sB z):=Quu (zs:=QlZ) underlying308 underlying9 (by kernel_rfl) (by kernel_rfl) x
  have N:a.toList=Qwj.map λz=>Value.int .u8 z:=Lib.cells_of_tab (zs:=Qwj) underlying324 underlying5 (by kernel_rfl) (by kernel_rfl) n
  have O:d.toList=Qwk.map λz=>Value.int .u8 z:=Lib.cells_of_tab (zs:=Qwk) underlying325 underlying5 (by kernel_rfl) (by kernel_rfl) r
  obtain⟨b,es,C,E,hb,F,H⟩:=QCi (D:=Qsb) underlying244 underlying3 underlying242 rfl underlying241 (by kernel_rfl) (by kernel_rfl) Qw6 B
  rw[Qz2] at F H
  intro p hp
  simp only[mem_cons,not_mem_nil,or_false] at hp
  rcases hp with rfl | rfl | rfl | rfl | rfl
  · exact QFI k A E hb rfl QCj F H
  · exact Qle (cs:=i.toList) j (by simpa using w) (by rw[M];exact Qw2 _)
  · exact Qle (cs:=f.toList) g (by simpa using t) (by rw[L];exact QhX _)
  · exact Qle (cs:=a.toList) c (by simpa using m) (by rw[N];exact QhX _)
  · exact Qle (cs:=d.toList) e (by simpa using q) (by rw[O];exact QhX _)

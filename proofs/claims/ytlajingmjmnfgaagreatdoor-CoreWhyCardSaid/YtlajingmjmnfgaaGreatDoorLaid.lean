/- What the rows of this seat give of the listed variables. No condition. -/
import Derived.Test.YtlajingmjmnfgaaGreatDoorBase
import Derived.Test.YtlajingmjmnfgaaGreatDoorSimT
set_option linter.all false
open List Go.Proofs.Tryz
namespace Go.Proofs.YtlajingmjmnfgaaGreatDoor
open Go.Sim
def Qqj:List Fent:=[⟨0,100,[105,111,114,97,109,97,47,116,121,112,105,110,103,46,99,104,101,99,107,115,36,49],263⟩,⟨1,100,[105,111,114,97,109,97,47,116,121,112,105,110,103,46,99,104,101,99,107,115,36,50],264⟩,⟨4,100,[105,111,114,97,109,97,47,116,121,112,105,110,103,46,99,104,101,99,107,115,36,51],265⟩,⟨5,100,[105,111,114,97,109,97,47,116,121,112,105,110,103,46,99,104,101,99,107,115,36,52],266⟩,⟨6,100,[105,111,114,97,109,97,47,116,121,112,105,110,103,46,99,104,101,99,107,115,36,53],268⟩,⟨7,100,[105,111,114,97,109,97,47,116,121,112,105,110,103,46,99,104,101,99,107,115,36,54],270⟩,⟨8,100,[105,111,114,97,109,97,47,116,121,112,105,110,103,46,99,104,101,99,107,115,36,55],272⟩]
theorem QwV:Qqj.map Fent.ent=QhT:=rfl
theorem QyQ:∀i v v',(Value.int .i64 i,v)∈QhT->(Value.int .i64 i,v')∈QhT->v=v':=by
  intro i v v' h h'
  simp only[QhT,mem_cons,not_mem_nil,or_false,Prod.mk.injEq,Value.int.injEq,true_and] at h h'
  rcases h with⟨h,rfl⟩ | ⟨h,rfl⟩ | ⟨h,rfl⟩ | ⟨h,rfl⟩ | ⟨h,rfl⟩ | ⟨h,rfl⟩ | ⟨h,rfl⟩<;>rcases h' with⟨h',rfl⟩ | ⟨h',rfl⟩ | ⟨h',rfl⟩ | ⟨h',rfl⟩ | ⟨h',rfl⟩ | ⟨h',rfl⟩ | ⟨h',rfl⟩<;>first | rfl | omega
theorem Quu:∀d∈Qqj,((range prog.funcs.size).filter λf=>(prog.funcs[f]?).any (·.name.toUTF8.data.toList==d.b::d.r))=[d.f]:=by
  intro d hd
  simp only[Qqj,mem_cons,not_mem_nil,or_false] at hd
  rcases hd with rfl | rfl | rfl | rfl | rfl | rfl | rfl<;>kernel_rfl
set_option maxRecDepth 100000 in
theorem Qsq {W:World} (h:laidMetH prog Rows.coreWhyRow.laid W):glo.ok (free (λ_=>False) W) W:=by
  have hf:=h.funcs (Mem.tail _ (Mem.tail _ (Mem.tail _ (Mem.tail _ (Mem.head _)))))
  obtain⟨⟨ps,⟨g0,t0,cs0,f0,p0,q0,hg0,ht0,hv0,hd0,⟨g1,t1,cs1,f1,p1,q1,hg1,ht1,hv1,hd1,⟨g2,t2,cs2,f2,p2,q2,hg2,ht2,hv2,hd2,⟨g3,t3,cs3,f3,p3,q3,hg3,ht3,hv3,hd3,_,_⟩,_⟩,_⟩,_⟩,_,_⟩,_⟩:=h
  obtain⟨g4,t4,cs4,f4,p4,hg4,ht4,hv4,hd4⟩:=hf
  obtain rfl:3=g0:=Option.some.inj ((by kernel_rfl:_=some 3).symm.trans hg0)
  obtain rfl:299=t0:=Option.some.inj ((by kernel_rfl:_=some 299).symm.trans ht0)
  obtain rfl:4=g1:=Option.some.inj ((by kernel_rfl:_=some 4).symm.trans hg1)
  obtain rfl:300=t1:=Option.some.inj ((by kernel_rfl:_=some 300).symm.trans ht1)
  obtain rfl:2=g2:=Option.some.inj ((by kernel_rfl:_=some 2).symm.trans hg2)
  obtain rfl:297=t2:=Option.some.inj ((by kernel_rfl:_=some 297).symm.trans ht2)
  obtain rfl:1=g3:=Option.some.inj ((by kernel_rfl:_=some 1).symm.trans hg3)
  obtain rfl:270=t3:=Option.some.inj ((by kernel_rfl:_=some 270).symm.trans ht3)
  obtain rfl:0=g4:=Option.some.inj ((by kernel_rfl:_=some 0).symm.trans hg4)
  obtain rfl:161=t4:=Option.some.inj ((by kernel_rfl:_=some 161).symm.trans ht4)
  have c2:cs2.toList=QqB.map λz=>Value.int .u64 z:=Lib.cells_of_tab (zs:=QqB) underlying297 underlying178 (by kernel_rfl) (by kernel_rfl) hd2
  have c3:cs3.toList=QjZ.map λz=>Value.string (sB z):=Qso (zs:=QjZ) underlying270 underlying9 (by kernel_rfl) (by kernel_rfl) hd3
  have c0:cs0.toList=QtE.map λz=>Value.int .u8 z:=Lib.cells_of_tab (zs:=QtE) underlying299 underlying5 (by kernel_rfl) (by kernel_rfl) hd0
  have c1:cs1.toList=QtF.map λz=>Value.int .u8 z:=Lib.cells_of_tab (zs:=QtF) underlying300 underlying5 (by kernel_rfl) (by kernel_rfl) hd1
  obtain⟨b,es,clock,hcs,hb,m1,m2⟩:=QyP (D:=Qqj) underlying161 underlying3 underlying159 rfl underlying158 (by kernel_rfl) (by kernel_rfl) Quu hd4
  rw[QwV] at m1 m2
  intro p hp
  simp only[mem_cons,not_mem_nil,or_false] at hp
  rcases hp with rfl | rfl | rfl | rfl | rfl
  · exact QCd hg4 hv4 hcs hb rfl QyQ m1 m2
  · exact Qjn (cs:=cs3.toList) hg3 (by simpa using hv3) (by rw[c3];exact Quq _)
  · exact Qjn (cs:=cs2.toList) hg2 (by simpa using hv2) (by rw[c2];exact Qk2 _)
  · exact Qjn (cs:=cs0.toList) hg0 (by simpa using hv0) (by rw[c0];exact Qk2 _)
  · exact Qjn (cs:=cs1.toList) hg1 (by simpa using hv1) (by rw[c1];exact Qk2 _)

/- What the rows of this seat give of the listed variables, written by a program. No condition. -/
import Derived.Test.YtcdccjagknlmpaaGreatDoorBase
import Derived.Test.YtcdccjagknlmpaaGreatDoorSimT
namespace Go.Proofs.YtcdccjagknlmpaaGreatDoor
open Go.Sim

def QqV:List Fent:=[⟨0,100,[105,111,114,97,109,97,47,116,121,112,105,110,103,46,99,104,101,99,107,115,36,49],207⟩,⟨1,100,[105,111,114,97,109,97,47,116,121,112,105,110,103,46,99,104,101,99,107,115,36,50],208⟩,⟨4,100,[105,111,114,97,109,97,47,116,121,112,105,110,103,46,99,104,101,99,107,115,36,51],209⟩,⟨5,100,[105,111,114,97,109,97,47,116,121,112,105,110,103,46,99,104,101,99,107,115,36,52],210⟩,⟨6,100,[105,111,114,97,109,97,47,116,121,112,105,110,103,46,99,104,101,99,107,115,36,53],212⟩,⟨7,100,[105,111,114,97,109,97,47,116,121,112,105,110,103,46,99,104,101,99,107,115,36,54],214⟩,⟨8,100,[105,111,114,97,109,97,47,116,121,112,105,110,103,46,99,104,101,99,107,115,36,55],216⟩]
theorem Quo:QqV.map Fent.ent=QjK:=rfl
theorem Qvo:∀i v v',(Value.int .i64 i,v)∈QjK→(Value.int .i64 i,v')∈QjK→v=v':=by
  intro i v v' h h'
  simp only[QjK,List.mem_cons,List.not_mem_nil,or_false,Prod.mk.injEq,Value.int.injEq,true_and] at h h'
  rcases h with⟨h,rfl⟩ | ⟨h,rfl⟩ | ⟨h,rfl⟩ | ⟨h,rfl⟩ | ⟨h,rfl⟩ | ⟨h,rfl⟩ | ⟨h,rfl⟩<;>rcases h' with⟨h',rfl⟩ | ⟨h',rfl⟩ | ⟨h',rfl⟩ | ⟨h',rfl⟩ | ⟨h',rfl⟩ | ⟨h',rfl⟩ | ⟨h',rfl⟩<;>first | rfl | omega
theorem Qs4:∀d∈QqV,((List.range Tryz.prog.funcs.size).filter fun f=>(Tryz.prog.funcs[f]?).any (·.name.toUTF8.data.toList==d.b::d.r))=[d.f]:=by
  intro d hd
  simp only[QqV,List.mem_cons,List.not_mem_nil,or_false] at hd
  rcases hd with rfl | rfl | rfl | rfl | rfl | rfl | rfl<;>kernel_rfl

set_option maxRecDepth 100000 in
theorem QrU {W:World} (h:laidMetH Tryz.prog Rows.countsPlansRow.laid W):glo.ok (free (fun _=>False) W) W:=by
  have hf:=h.funcs (List.Mem.tail _ (List.Mem.tail _ (List.Mem.tail _ (List.Mem.tail _ (List.Mem.head _)))))
  obtain⟨⟨ps,⟨g0,t0,cs0,f0,p0,q0,hg0,ht0,hv0,hd0,⟨g1,t1,cs1,f1,p1,q1,hg1,ht1,hv1,hd1,⟨g2,t2,cs2,f2,p2,q2,hg2,ht2,hv2,hd2,⟨g3,t3,cs3,f3,p3,q3,hg3,ht3,hv3,hd3,_,_⟩,_⟩,_⟩,_⟩,_,_⟩,_⟩:=h
  obtain⟨g4,t4,cs4,f4,p4,hg4,ht4,hv4,hd4⟩:=hf
  obtain rfl:1=g0:=Option.some.inj ((by kernel_rfl:_=some 1).symm.trans hg0)
  obtain rfl:176=t0:=Option.some.inj ((by kernel_rfl:_=some 176).symm.trans ht0)
  obtain rfl:2=g1:=Option.some.inj ((by kernel_rfl:_=some 2).symm.trans hg1)
  obtain rfl:177=t1:=Option.some.inj ((by kernel_rfl:_=some 177).symm.trans ht1)
  obtain rfl:4=g2:=Option.some.inj ((by kernel_rfl:_=some 4).symm.trans hg2)
  obtain rfl:227=t2:=Option.some.inj ((by kernel_rfl:_=some 227).symm.trans ht2)
  obtain rfl:3=g3:=Option.some.inj ((by kernel_rfl:_=some 3).symm.trans hg3)
  obtain rfl:210=t3:=Option.some.inj ((by kernel_rfl:_=some 210).symm.trans ht3)
  obtain rfl:0=g4:=Option.some.inj ((by kernel_rfl:_=some 0).symm.trans hg4)
  obtain rfl:131=t4:=Option.some.inj ((by kernel_rfl:_=some 131).symm.trans ht4)
  have c2:cs2.toList=Qri.map fun z=>Value.int .u64 z:=Lib.cells_of_tab (zs:=Qri) Tryz.underlying227 Tryz.underlying156 (by kernel_rfl) (by kernel_rfl) hd2
  have c3:cs3.toList=QkK.map fun z=>Value.string (sB z):=QrS (zs:=QkK) Tryz.underlying210 Tryz.underlying9 (by kernel_rfl) (by kernel_rfl) hd3
  have c0:cs0.toList=QsA.map fun z=>Value.int .u8 z:=Lib.cells_of_tab (zs:=QsA) Tryz.underlying176 Tryz.underlying5 (by kernel_rfl) (by kernel_rfl) hd0
  have c1:cs1.toList=QoU.map fun z=>Value.int .u8 z:=Lib.cells_of_tab (zs:=QoU) Tryz.underlying177 Tryz.underlying5 (by kernel_rfl) (by kernel_rfl) hd1
  obtain⟨b,es,clock,hcs,hb,m1,m2⟩:=Qvn (D:=QqV) Tryz.underlying131 Tryz.underlying3 Tryz.underlying129 rfl Tryz.underlying128 (by kernel_rfl) (by kernel_rfl) Qs4 hd4
  rw[Quo] at m1 m2
  intro p hp
  simp only[List.mem_cons,List.not_mem_nil,or_false] at hp
  rcases hp with rfl | rfl | rfl | rfl | rfl
  · exact Qxi hg4 hv4 hcs hb rfl Qvo m1 m2
  · exact Qk3 (cs:=cs0.toList) hg0 (by simpa using hv0) (by rw[c0];exact QmK _)
  · exact Qk3 (cs:=cs1.toList) hg1 (by simpa using hv1) (by rw[c1];exact QmK _)
  · exact Qk3 (cs:=cs3.toList) hg3 (by simpa using hv3) (by rw[c3];exact Qs0 _)
  · exact Qk3 (cs:=cs2.toList) hg2 (by simpa using hv2) (by rw[c2];exact QmK _)

end Go.Proofs.YtcdccjagknlmpaaGreatDoor

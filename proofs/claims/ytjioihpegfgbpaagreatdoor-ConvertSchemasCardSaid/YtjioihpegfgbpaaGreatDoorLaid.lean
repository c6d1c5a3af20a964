/- What the rows of this seat give of the listed variables. No condition. -/
import Derived.Test.YtjioihpegfgbpaaGreatDoorBase
import Derived.Test.YtjioihpegfgbpaaGreatDoorSimGm
set_option linter.all false
open List Go.Proofs.Tryz
namespace Go.Proofs.YtjioihpegfgbpaaGreatDoor
open Go.Sim Go.ChangeShapes Go.WideShapes Go.WideElems
def QqD:List Fent:=[⟨0,100,[105,111,114,97,109,97,47,116,121,112,105,110,103,46,99,104,101,99,107,115,36,49],248⟩,⟨1,100,[105,111,114,97,109,97,47,116,121,112,105,110,103,46,99,104,101,99,107,115,36,50],249⟩,⟨4,100,[105,111,114,97,109,97,47,116,121,112,105,110,103,46,99,104,101,99,107,115,36,51],250⟩,⟨5,100,[105,111,114,97,109,97,47,116,121,112,105,110,103,46,99,104,101,99,107,115,36,52],251⟩,⟨6,100,[105,111,114,97,109,97,47,116,121,112,105,110,103,46,99,104,101,99,107,115,36,53],253⟩,⟨7,100,[105,111,114,97,109,97,47,116,121,112,105,110,103,46,99,104,101,99,107,115,36,54],254⟩,⟨8,100,[105,111,114,97,109,97,47,116,121,112,105,110,103,46,99,104,101,99,107,115,36,55],256⟩]
theorem Qvw:QqD.map Fent.ent=Qi8:=rfl
theorem QwO:∀i v v',(Value.int .i64 i,v)∈Qi8->(Value.int .i64 i,v')∈Qi8->v=v':=by
  intro i v v' h h'
  simp only[Qi8,mem_cons,not_mem_nil,or_false,Prod.mk.injEq,Value.int.injEq,true_and] at h h'
  rcases h with⟨h,rfl⟩ | ⟨h,rfl⟩ | ⟨h,rfl⟩ | ⟨h,rfl⟩ | ⟨h,rfl⟩ | ⟨h,rfl⟩ | ⟨h,rfl⟩<;>rcases h' with⟨h',rfl⟩ | ⟨h',rfl⟩ | ⟨h',rfl⟩ | ⟨h',rfl⟩ | ⟨h',rfl⟩ | ⟨h',rfl⟩ | ⟨h',rfl⟩<;>first | rfl | omega
theorem QtS:∀d∈QqD,((range prog.funcs.size).filter λf=>(prog.funcs[f]?).any (·.name.toUTF8.data.toList==d.b::d.r))=[d.f]:=by
  intro d hd
  simp only[QqD,mem_cons,not_mem_nil,or_false] at hd
  rcases hd with rfl | rfl | rfl | rfl | rfl | rfl | rfl<;>kernel_rfl
structure Sent where
  key:Int
  b1:Bool
  b2:Bool
  b3:Bool
  f1:Option (UInt8×List UInt8×FuncId)
  f2:Option (UInt8×List UInt8×FuncId)
  f3:Option (UInt8×List UInt8×FuncId)
  f4:Option (UInt8×List UInt8×FuncId)
def dB (b:Bool):DataW (List UInt8)×Value:=(.lit (.bool b),.bool b)
def dF:Option (UInt8×List UInt8×FuncId)->DataW (List UInt8)×Value
  | none=>(.nil,.nilFunc)
  | some (b,r,f)=>(.held (b::r),.func (.func f) #[] #[])
def Sent.ds (s:Sent):List (DataW (List UInt8)×Value):=[dB s.b1,dB s.b2,dB s.b3,dF s.f1,dF s.f2,dF s.f3,dF s.f4]
def Sent.gent (s:Sent):Gent:=⟨s.key,.agg (s.ds.map (·.1)),.agg (s.ds.map (·.2)).toArray⟩
def oneF (o:Option (UInt8×List UInt8×FuncId)):Prop:=∀b r f,o=some (b,r,f)->((range prog.funcs.size).filter λf=>(prog.funcs[f]?).any (·.name.toUTF8.data.toList==b::r))=[f]
theorem QnZ {W:World} {m:Nat} {t:TypeId} {c:List Value} {b:Bool} {y:DataW (List UInt8)×List MemPlace} (ht:prog.underlying t=some .bool) (h:DataW.trod (funcToken prog) prog W 0 (λ_=>true) true m t c=some y) (hy:y.1=(dB b).1):c=[(dB b).2]:=by
  obtain⟨y1,y2⟩:=y
  obtain rfl:y1=_:=hy
  exact QrN ht h
theorem Qnt {W:World} {m:Nat} {t:TypeId} {ps rs:Array TypeId} {va:Bool} {c:List Value} {o:Option (UInt8×List UInt8×FuncId)} {y:DataW (List UInt8)×List MemPlace} (ht:prog.underlying t=some (.func ps rs va)) (ho:oneF o) (h:DataW.trod (funcToken prog) prog W 0 (λ_=>true) true m t c=some y) (hy:y.1=(dF o).1):c=[(dF o).2]:=by
  obtain⟨y1,y2⟩:=y
  cases o with
  | none=>
    obtain rfl:y1=_:=hy
    exact Qsh ht h
  | some q=>
    obtain⟨b,r,f⟩:=q
    obtain rfl:y1=_:=hy
    exact Qqo ht (ho b r f rfl) h
theorem Qig {W:World} {s:Sent} (h1:oneF s.f1) (h2:oneF s.f2) (h3:oneF s.f3) (h4:oneF s.f4) {n:Nat} {x:Value} {z:DataW (List UInt8)×List MemPlace} (h:elemAt (funcToken prog) prog W 0 (λ_=>true) true n 118 x=some z) (hz:z.1=s.gent.dw):x=s.gent.v:=by
  refine Qsi (ds:=s.ds) underlying118 (by kernel_rfl) rfl (λi f hf=>?_) (λi f d hf hd m c y hy hy1=>?_) h hz
  · rcases i with _ | _ | _ | _ | _ | _ | _ | i<;>first | (obtain rfl:=Option.some.inj hf;exact⟨rfl,by kernel_rfl⟩) | (simp at hf)
  · rcases i with _ | _ | _ | _ | _ | _ | _ | i
    · obtain rfl:=Option.some.inj hf;obtain rfl:=Option.some.inj hd;exact QnZ underlying4 hy hy1
    · obtain rfl:=Option.some.inj hf;obtain rfl:=Option.some.inj hd;exact QnZ underlying4 hy hy1
    · obtain rfl:=Option.some.inj hf;obtain rfl:=Option.some.inj hd;exact QnZ underlying4 hy hy1
    · obtain rfl:=Option.some.inj hf;obtain rfl:=Option.some.inj hd;exact Qnt underlying113 h1 hy hy1
    · obtain rfl:=Option.some.inj hf;obtain rfl:=Option.some.inj hd;exact Qnt underlying114 h2 hy hy1
    · obtain rfl:=Option.some.inj hf;obtain rfl:=Option.some.inj hd;exact Qnt underlying115 h3 hy hy1
    · obtain rfl:=Option.some.inj hf;obtain rfl:=Option.some.inj hd;exact Qnt underlying116 h4 hy hy1
    · simp at hf
def sents:List Sent:=[⟨0,true,false,false,none,some (100,[105,111,114,97,109,97,47,99,111,110,118,101,114,116,46,115,116,101,112,115,36,49],222),some (100,[105,111,114,97,109,97,47,99,111,110,118,101,114,116,46,115,116,101,112,115,36,50],223),some (100,[105,111,114,97,109,97,47,99,111,110,118,101,114,116,46,115,116,101,112,115,36,51],224)⟩,⟨1,true,true,false,none,some (100,[105,111,114,97,109,97,47,99,111,110,118,101,114,116,46,115,116,101,112,115,36,52],225),some (100,[105,111,114,97,109,97,47,99,111,110,118,101,114,116,46,115,116,101,112,115,36,53],227),none⟩,⟨2,true,true,false,none,some (100,[105,111,114,97,109,97,47,99,111,110,118,101,114,116,46,114,101,110,97,109,101],229),none,some (100,[105,111,114,97,109,97,47,99,111,110,118,101,114,116,46,115,97,109,101],230)⟩,⟨3,true,true,false,some (100,[105,111,114,97,109,97,47,99,111,110,118,101,114,116,46,115,99,97,108,101,100],231),some (100,[105,111,114,97,109,97,47,99,111,110,118,101,114,116,46,115,116,101,112,115,36,54],232),some (100,[105,111,114,97,109,97,47,99,111,110,118,101,114,116,46,115,116,101,112,115,36,55],233),some (100,[105,111,114,97,109,97,47,99,111,110,118,101,114,116,46,115,116,101,112,115,36,56],234)⟩,⟨4,true,true,false,some (100,[105,111,114,97,109,97,47,99,111,110,118,101,114,116,46,112,105,99,107,101,100],235),some (100,[105,111,114,97,109,97,47,99,111,110,118,101,114,116,46,115,116,101,112,115,36,57],236),none,some (100,[105,111,114,97,109,97,47,99,111,110,118,101,114,116,46,115,116,101,112,115,36,49,48],237)⟩,⟨5,false,false,true,none,some (100,[105,111,114,97,109,97,47,99,111,110,118,101,114,116,46,115,116,101,112,115,36,49,49],238),none,some (100,[105,111,114,97,109,97,47,99,111,110,118,101,114,116,46,115,116,101,112,115,36,49,50],240)⟩,⟨6,true,false,false,some (100,[105,111,114,97,109,97,47,99,111,110,118,101,114,116,46,119,105,100,101,110,101,100],242),some (100,[105,111,114,97,109,97,47,99,111,110,118,101,114,116,46,115,116,101,112,115,36,49,51],243),none,some (100,[105,111,114,97,109,97,47,99,111,110,118,101,114,116,46,115,97,109,101],230)⟩]
def QqE:List Gent:=sents.map Sent.gent
theorem Qvx:QqE.map Gent.ent=Qh2:=rfl
theorem Qvy:∀i v v',(Value.int .i64 i,v)∈Qh2->(Value.int .i64 i,v')∈Qh2->v=v':=by
  intro i v v' h h'
  simp only[Qh2,mem_cons,not_mem_nil,or_false,Prod.mk.injEq,Value.int.injEq,true_and] at h h'
  rcases h with⟨h,rfl⟩ | ⟨h,rfl⟩ | ⟨h,rfl⟩ | ⟨h,rfl⟩ | ⟨h,rfl⟩ | ⟨h,rfl⟩ | ⟨h,rfl⟩<;>rcases h' with⟨h',rfl⟩ | ⟨h',rfl⟩ | ⟨h',rfl⟩ | ⟨h',rfl⟩ | ⟨h',rfl⟩ | ⟨h',rfl⟩ | ⟨h',rfl⟩<;>first | rfl | omega
theorem Qfm:oneF none:=λ_ _ _ h=>by cases h
theorem Qyw:oneF (some (100,[105,111,114,97,109,97,47,99,111,110,118,101,114,116,46,115,116,101,112,115,36,49],222)):=λb r f h=>by cases h;kernel_rfl
theorem Qyx:oneF (some (100,[105,111,114,97,109,97,47,99,111,110,118,101,114,116,46,115,116,101,112,115,36,50],223)):=λb r f h=>by cases h;kernel_rfl
theorem Qyy:oneF (some (100,[105,111,114,97,109,97,47,99,111,110,118,101,114,116,46,115,116,101,112,115,36,51],224)):=λb r f h=>by cases h;kernel_rfl
theorem Qyz:oneF (some (100,[105,111,114,97,109,97,47,99,111,110,118,101,114,116,46,115,116,101,112,115,36,52],225)):=λb r f h=>by cases h;kernel_rfl
theorem QyA:oneF (some (100,[105,111,114,97,109,97,47,99,111,110,118,101,114,116,46,115,116,101,112,115,36,53],227)):=λb r f h=>by cases h;kernel_rfl
theorem QyB:oneF (some (100,[105,111,114,97,109,97,47,99,111,110,118,101,114,116,46,114,101,110,97,109,101],229)):=λb r f h=>by cases h;kernel_rfl
theorem QsI:oneF (some (100,[105,111,114,97,109,97,47,99,111,110,118,101,114,116,46,115,97,109,101],230)):=λb r f h=>by cases h;kernel_rfl
theorem QyC:oneF (some (100,[105,111,114,97,109,97,47,99,111,110,118,101,114,116,46,115,99,97,108,101,100],231)):=λb r f h=>by cases h;kernel_rfl
theorem QyD:oneF (some (100,[105,111,114,97,109,97,47,99,111,110,118,101,114,116,46,115,116,101,112,115,36,54],232)):=λb r f h=>by cases h;kernel_rfl
theorem QyE:oneF (some (100,[105,111,114,97,109,97,47,99,111,110,118,101,114,116,46,115,116,101,112,115,36,55],233)):=λb r f h=>by cases h;kernel_rfl
theorem QyF:oneF (some (100,[105,111,114,97,109,97,47,99,111,110,118,101,114,116,46,115,116,101,112,115,36,56],234)):=λb r f h=>by cases h;kernel_rfl
theorem QyG:oneF (some (100,[105,111,114,97,109,97,47,99,111,110,118,101,114,116,46,112,105,99,107,101,100],235)):=λb r f h=>by cases h;kernel_rfl
theorem QyH:oneF (some (100,[105,111,114,97,109,97,47,99,111,110,118,101,114,116,46,115,116,101,112,115,36,57],236)):=λb r f h=>by cases h;kernel_rfl
theorem QyI:oneF (some (100,[105,111,114,97,109,97,47,99,111,110,118,101,114,116,46,115,116,101,112,115,36,49,48],237)):=λb r f h=>by cases h;kernel_rfl
theorem QyJ:oneF (some (100,[105,111,114,97,109,97,47,99,111,110,118,101,114,116,46,115,116,101,112,115,36,49,49],238)):=λb r f h=>by cases h;kernel_rfl
theorem QyK:oneF (some (100,[105,111,114,97,109,97,47,99,111,110,118,101,114,116,46,115,116,101,112,115,36,49,50],240)):=λb r f h=>by cases h;kernel_rfl
theorem QyL:oneF (some (100,[105,111,114,97,109,97,47,99,111,110,118,101,114,116,46,119,105,100,101,110,101,100],242)):=λb r f h=>by cases h;kernel_rfl
theorem QyM:oneF (some (100,[105,111,114,97,109,97,47,99,111,110,118,101,114,116,46,115,116,101,112,115,36,49,51],243)):=λb r f h=>by cases h;kernel_rfl
theorem QwP {W:World}:∀d∈QqE,∀(n:Nat) (x:Value) (z:DataW (List UInt8)×List MemPlace),elemAt (funcToken prog) prog W 0 (λ_=>true) true n 118 x=some z->z.1=d.dw->x=d.v:=by
  intro d hd
  simp only[QqE,sents,map_cons,map_nil,mem_cons,not_mem_nil,or_false] at hd
  rcases hd with rfl | rfl | rfl | rfl | rfl | rfl | rfl
  · exact λn x z h hz=>Qig Qfm Qyw Qyx Qyy h hz
  · exact λn x z h hz=>Qig Qfm Qyz QyA Qfm h hz
  · exact λn x z h hz=>Qig Qfm QyB Qfm QsI h hz
  · exact λn x z h hz=>Qig QyC QyD QyE QyF h hz
  · exact λn x z h hz=>Qig QyG QyH Qfm QyI h hz
  · exact λn x z h hz=>Qig Qfm QyJ Qfm QyK h hz
  · exact λn x z h hz=>Qig QyL QyM Qfm QsI h hz
set_option maxRecDepth 100000 in
theorem Qsj {W:World} (h:laidMetH prog Rows.convertSchemasRow.laid W):glo.ok (free (λ_=>False) W) W:=by
  have hf:=h.funcs (Mem.tail _ (Mem.tail _ (Mem.tail _ (Mem.tail _ (Mem.head _)))))
  have hs:=h.funcs (Mem.tail _ (Mem.tail _ (Mem.tail _ (Mem.tail _ (Mem.tail _ (Mem.head _))))))
  obtain⟨⟨ps,⟨g0,t0,cs0,f0,p0,q0,hg0,ht0,hv0,hd0,⟨g1,t1,cs1,f1,p1,q1,hg1,ht1,hv1,hd1,⟨g2,t2,cs2,f2,p2,q2,hg2,ht2,hv2,hd2,⟨g3,t3,cs3,f3,p3,q3,hg3,ht3,hv3,hd3,_,_⟩,_⟩,_⟩,_⟩,_,_⟩,_⟩:=h
  obtain⟨g4,t4,cs4,f4,p4,hg4,ht4,hv4,hd4⟩:=hf
  obtain⟨g5,t5,cs5,f5,p5,hg5,ht5,hv5,hd5⟩:=hs
  obtain rfl:4=g0:=Option.some.inj ((by kernel_rfl:_=some 4).symm.trans hg0)
  obtain rfl:282=t0:=Option.some.inj ((by kernel_rfl:_=some 282).symm.trans ht0)
  obtain rfl:5=g1:=Option.some.inj ((by kernel_rfl:_=some 5).symm.trans hg1)
  obtain rfl:283=t1:=Option.some.inj ((by kernel_rfl:_=some 283).symm.trans ht1)
  obtain rfl:3=g2:=Option.some.inj ((by kernel_rfl:_=some 3).symm.trans hg2)
  obtain rfl:276=t2:=Option.some.inj ((by kernel_rfl:_=some 276).symm.trans ht2)
  obtain rfl:2=g3:=Option.some.inj ((by kernel_rfl:_=some 2).symm.trans hg3)
  obtain rfl:258=t3:=Option.some.inj ((by kernel_rfl:_=some 258).symm.trans ht3)
  obtain rfl:1=g4:=Option.some.inj ((by kernel_rfl:_=some 1).symm.trans hg4)
  obtain rfl:169=t4:=Option.some.inj ((by kernel_rfl:_=some 169).symm.trans ht4)
  obtain rfl:0=g5:=Option.some.inj ((by kernel_rfl:_=some 0).symm.trans hg5)
  obtain rfl:119=t5:=Option.some.inj ((by kernel_rfl:_=some 119).symm.trans ht5)
  have c2:cs2.toList=Qq4.map λz=>Value.int .u64 z:=Lib.cells_of_tab (zs:=Qq4) underlying276 underlying270 (by kernel_rfl) (by kernel_rfl) hd2
  have c3:cs3.toList=Qlk.map λz=>Value.string (sB z):=Qsf (zs:=Qlk) underlying258 underlying9 (by kernel_rfl) (by kernel_rfl) hd3
  have c0:cs0.toList=Qs7.map λz=>Value.int .u8 z:=Lib.cells_of_tab (zs:=Qs7) underlying282 underlying5 (by kernel_rfl) (by kernel_rfl) hd0
  have c1:cs1.toList=Qs8.map λz=>Value.int .u8 z:=Lib.cells_of_tab (zs:=Qs8) underlying283 underlying5 (by kernel_rfl) (by kernel_rfl) hd1
  obtain⟨b,es,clock,hcs,hb,m1,m2⟩:=QwN (D:=QqD) underlying169 underlying3 underlying167 rfl underlying166 (by kernel_rfl) (by kernel_rfl) QtS hd4
  rw[Qvw] at m1 m2
  obtain⟨b5,es5,clock5,hcs5,hb5,k1,k2⟩:=Qvv (D:=QqE) underlying119 underlying3 QwP hd5
  rw[Qvx] at k1 k2
  intro p hp
  simp only[mem_cons,not_mem_nil,or_false] at hp
  rcases hp with rfl | rfl | rfl | rfl | rfl | rfl
  · exact QsH hg5 hv5 hcs5 hb5 rfl Qvy k1 k2
  · exact QsH hg4 hv4 hcs hb rfl QwO m1 m2
  · exact Qkt (cs:=cs3.toList) hg3 (by simpa using hv3) (by rw[c3];exact QtO _)
  · exact Qkt (cs:=cs2.toList) hg2 (by simpa using hv2) (by rw[c2];exact Ql5 _)
  · exact Qkt (cs:=cs0.toList) hg0 (by simpa using hv0) (by rw[c0];exact Ql5 _)
  · exact Qkt (cs:=cs1.toList) hg1 (by simpa using hv1) (by rw[c1];exact Ql5 _)

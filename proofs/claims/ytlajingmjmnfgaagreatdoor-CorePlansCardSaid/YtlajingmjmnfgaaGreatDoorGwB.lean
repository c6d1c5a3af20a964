/- The generator gives schemas without problems: what a new kind looks like. No condition. -/
import Derived.Test.YtlajingmjmnfgaaGreatDoorCoG
import Derived.Test.YtlajingmjmnfgaaGreatDoorBdQ
import Derived.Test.YtlajingmjmnfgaaGreatDoorCtI
set_option linter.all false
open List Go.IntKind
namespace Go.Proofs.YtlajingmjmnfgaaGreatDoor
open Go.Sim
def Qh4:List Str:=[[112,101,114,115,111,110],[111,114,100,101,114],[105,116,101,109]]
def Qoi {p:List Qc} (h:p.map sg∈Qbc):p.length≤2:=by
 have e:p.length=(p.map sg).length:=by simp
 simp only[Qbc,Zm,Zv,ZE] at h;rw[e];rcases h with h | h | h | h | h | h<;>rw[h]<;>decide
set_option maxHeartbeats 1000000 in
def kind_w {m:Qn} {l:List Qg} {N:Nat} (hm:MOk m) (hl:l.length≤2) (hN:N≤20) (hk:∀k∈l,k.Fields.length≤N) (hw:∀k∈l,k.Hi - k.Lo≤29):
  Ok (Qbg m l) (fun r=>(Qh4[l.length]?=some r.1.Name∧r.1.Hi - r.1.Lo≤29)∧(MOk r.2.1∧∀k∈r.2.2,k.Hi - k.Lo≤29)∧Qd3 (l.map ks) (ks r.1) (r.2.2.map ks)):=by
 unfold Qbg;refine Ok.take hm (by decide) fun r1 m1 a1 b1 h1=>?_;refine Ok.idx a1 (by simpa using b1) fun lo hlo _=>?_;refine Ok.idx (by omega) (by simp;omega) fun name _ ename=>?_;have hlo2:0≤lo∧lo≤4:=by simp only[Zm,Zv,ZE] at hlo;omega
 refine Ok.take h1 (by decide) fun r2 m2 a2 b2 h2=>?_;refine Ok.take h2 (by decide) fun r3 m3 a3 b3 h3=>?_;refine Ok.idx a3 (by simpa using b3) fun id0 hid _=>?_;refine Ok.rm (by simp) ?_;refine Ok.bind (P:=fun p:Qn×List Qc×List Qg=>MOk p.1∧p.2.1.length≤4∧(p.2.2.length=l.length∧∀k∈p.2.2,k.Hi - k.Lo≤29)∧PreS (l.map ks) name (p.2.1.map sg) (p.2.2.map ks))
  (Ok.ite (fun hpos=>?_) (fun hz=>Ok.mk ⟨h3,by simp,⟨rfl,hw⟩,.inl ⟨?_,rfl,rfl⟩⟩)) fun p hp=>?_
 ·have hpos':(0:Int)<l.length:=ZA hpos;refine Ok.take h3 (by omega) fun to m4 a4 b4 h4=>?_;refine Ok.idx a4 b4 fun kt hkt ekt=>?_;have hT:(l.map ks)[to.toNat]?=some (ks kt):=by rw[ZJ,ekt];rfl
  refine Ok.take h4 (by decide) fun r5 m5 a5 b5 h5=>?_;refine Ok.idx a5 (by simpa using b5) fun hi hhi _=>?_;refine Ok.take h5 (by decide) fun r6 m6 _ _ h6=>?_;refine Ok.bind (P:=fun f=>sg f=sOf kt.Name) (Ok.ite (fun _=>Ok.mk rfl) (fun _=>Ok.mk rfl)) fun f hf=>?_;refine Ok.rm (by simp) ?_;refine Ok.idx a4 b4 fun kt1 hkt1 ekt1=>?_;have e:kt1=kt:=Zs (ekt1.symm.trans ekt);subst e;refine (QzE (by have:=hk _ hkt1;omega)).bind fun c hc=>?_;refine Ok.opt (P:=fun r:Int×Qn=>MOk r.2) (fun h=>(QdH h6 (by decide)).weak fun r h=>h.2.2) fun r7 h7=>?_;have m7:MOk (bif (decide (c≥(0:Int)))==true then r7.2 else m6):=Qdm (fun h=>h7 (by rw[h];rfl)) h6;refine Ok.bind (P:=fun p:List Qc=>p.length≤3∧∃cp,p.map sg=sId::sOf kt1.Name::cp∧(cp=[]∨∃g∈(ks kt1).2,(g.2.1≠0∧g.2.1≠1∧g.2.1≠6∧g.2.1≠7)∧cp=[Qiu g.1])) (Ok.ite (fun h=>?_) (fun _=>Ok.mk ⟨by simp,[],?_,.inl rfl⟩)) fun fs hfs=>?_
  ·simp only[Zg,Zj] at h;refine Ok.idx a4 b4 fun kt2 hkt2 ekt2=>?_;have e:kt2=kt1:=Zs (ekt2.symm.trans ekt);subst e;refine Ok.idx h.1 hc.1.2 fun g hg eg=>Ok.rm (by simp) (Ok.mk ⟨by simp,[Qiu g.Name],?_,.inr ⟨sg g,Ya hg,?_,rfl⟩⟩)
   ·show [sId,sg f,Qiu g.Name]=_;rw[hf]
   ·obtain⟨g',eg',hg'⟩:=hc.2 h.1;have e:g'=g:=Zs (eg'.symm.trans eg);subst e;exact hg'
  ·show [sId,sg f]=_;rw[hf]
  ·obtain⟨hfl,cp,hfm,hcp⟩:=hfs;refine Ok.idx a4 b4 fun kt3 hkt3 ekt3=>?_;have e:kt3=kt1:=Zs (ekt3.symm.trans ekt);subst e;refine (Qqo (by have:=hk _ hkt3;omega)).bind fun tot htot=>?_;refine Ok.opt (P:=fun r:Int×Qn=>MOk r.2) (fun h=>(QdH m7 (by decide)).weak fun r h=>h.2.2) fun r8 h8=>?_;have m8:MOk (bif (decide (tot<(0:Int)))==true then r8.2 else (bif (decide (c≥(0:Int)))==true then r7.2 else m6)):=Qdm (fun h=>h8 (by rw[h];rfl)) m7;refine Ok.bind (P:=fun p:Qn×List Qc×List Qg=>MOk p.1∧p.2.1.length≤4∧(p.2.2.length=l.length∧∀k∈p.2.2,k.Hi - k.Lo≤29)∧PreS (l.map ks) name (p.2.1.map sg) (p.2.2.map ks))
    (Ok.ite (fun h=>?_) (fun _=>Ok.mk ⟨m8,by dsimp only;omega,⟨rfl,hw⟩,.inr ⟨to.toNat,ks kt3,cp,[],hT,by rw[hfm,Yh];rfl,hcp,.inl ⟨rfl,rfl⟩⟩⟩)) fun p hp=>Ok.mk hp
   simp only[Zg,Zj] at h;refine Ok.take m8 (by decide) fun r9 m9 a9 b9 h9=>Ok.take h9 (by decide) fun r10 m10 a10 b10 h10=>?_;refine Ok.rm (by simp;omega) ?_;refine Ok.idx a4 b4 fun kt4 hkt4 ekt4=>?_;have hk4:=hk _ hkt4;refine Ok.rm (by simp;omega) (Ok.rm (by simp;omega) ?_);have e:kt4=kt3:=Zs (ekt4.symm.trans ekt);subst e;refine Ok.idx a4 b4 fun kt5 hkt5 ekt5=>?_;have e:kt5=kt4:=Zs (ekt5.symm.trans ekt);subst e;refine Ok.setAt a4 b4 (Ok.mk ⟨h10,by simp;omega,⟨by simp,fun k hkm=>?_⟩,.inr ⟨to.toNat,ks kt5,cp,[Qhm],hT,?_,hcp,.inr ⟨?_,rfl,?_⟩⟩⟩)
   ·rcases mem_or_eq_of_mem_set hkm with hkm | rfl
    ·exact hw k hkm
    ·exact hw kt5 hkt5
   ·dsimp only;rw[ZV,hfm];rfl
   ·intro g hg;obtain⟨f',hf',rfl⟩:=ZC.1 hg;exact htot.2.1 h.1 f' hf'
   ·dsimp only;rw[map_set];congr 1;simp[ks,sg,Qhn,QgB]
 ·have:¬((l.length:Int)>0):=ZL hz;simp;exact length_eq_zero_iff.1 (by omega)
 ·obtain⟨q1,q2,⟨q4,q7⟩,q5⟩:=hp;refine Ok.opt (P:=fun r:Int×Qn=>MOk r.2) (fun h=>(QdH q1 (by decide)).weak fun r h=>h.2.2) fun r11 h11=>?_;have m11:MOk (bif (decide ((l.length:Int)>(1:Int)))==true then r11.2 else p.1):=Qdm (fun h=>h11 (by rw[h];rfl)) q1;refine Ok.bind (P:=fun f:List Qc=>f.length≤5∧∃by',f.map sg=p.2.1.map sg++by'∧(by'=[]∨(1<(l.map ks).length∧∃t,(p.2.2.map ks)[0]?=some t∧by'=[sBy t.1]))) (Ok.ite (fun h=>?_) (fun _=>Ok.mk ⟨by omega,[],by simp,.inl rfl⟩)) fun fs hfs=>?_
  ·simp only[Zg,Zj] at h;refine Ok.idx (by decide) (by omega) fun k0 hk0 ek0=>Ok.rm (by simp;omega) (Ok.mk ⟨by simp;omega,[sBy k0.Name],by rw[ZV];rfl,.inr ⟨by simp;omega,ks k0,?_,rfl⟩⟩);rw[ZJ];rw[show (0:Int).toNat=0 from rfl] at ek0;rw[ek0];rfl
  ·refine (QtO m11).bind fun r12 h12=>?_;obtain⟨c1,c3⟩:=h12;have c2:=Qoi c1;obtain⟨f1,by',f2,f3⟩:=hfs;refine Ok.rm (by omega) ?_;refine Ok.take c3 (by decide) fun r13 m13 _ _ h13=>?_;have eh:i64.wrap (lo+r2)=lo+r2:=w64 (by omega) (by omega);refine Ok.bind (P:=fun q:Qn×List Qc=>MOk q.1∧∃p2,q.2.map sg=p.2.1.map sg++by'++r12.1.map sg++p2∧(p2=[]∨(p2∈Qbc∧∀g,p2[0]?=some g→∀f∈p.2.1.map sg++by'++r12.1.map sg,f.1≠g.1))) (Ok.ite (fun h=>?_) (fun _=>Ok.mk ⟨h13,[],by rw[ZV,f2,Yh],.inl rfl⟩)) fun p52 hp52=>?_
   ·refine (QtO h13).bind fun r14 h14=>?_;obtain⟨d1,d3⟩:=h14;have d2:=Qoi d1;refine Ok.opt (P:=fun v=>r14.1[0]?=some v) (fun h=>?_) fun g hg=>?_
    ·have h':(r14.1.length:Int)>0:=by simpa using h
     exact (Ok.idx (by decide) (by omega) fun v _ ev=>Ok.mk ev:Ok ((idx r14.1 0).bind some) (fun v=>r14.1[0]?=some v)).weak (fun _ h=>h) |> fun h=>by simpa using h
    refine Ok.opt (P:=fun t=>t<0→∀f∈fs++r12.1,f.Name≠g.Name) (fun h=>(Qqo (by rw[Zi];omega)).weak fun _ h=>h.2.1) fun g2 hg2=>?_;refine Ok.bind (P:=fun q:List Qc=>∃p2,q.map sg=p.2.1.map sg++by'++r12.1.map sg++p2∧(p2=[]∨(p2∈Qbc∧∀g,p2[0]?=some g→∀f∈p.2.1.map sg++by'++r12.1.map sg,f.1≠g.1))) (Ok.ite (fun h=>Ok.rm (by rw[Zi];omega) (Ok.mk ⟨r14.1.map sg,by rw[ZV,ZV,f2],.inr ⟨d1,fun s hs f hf=>?_⟩⟩)) (fun _=>Ok.mk ⟨[],by rw[ZV,f2,Yh],.inl rfl⟩)) fun p64 hp64=>Ok.mk ⟨d3,hp64⟩;simp only[Zg,Zj] at h;have e1:=hg (by simpa using h.1);have e2:=hg2 (by simpa using h.1) h.2;rw[ZJ,e1] at hs;cases hs;rw[←f2,←ZV] at hf;obtain⟨f',hf',rfl⟩:=ZC.1 hf;exact e2 f' hf'
   ·obtain⟨z1,p2,z2,z3⟩:=hp52;refine Ok.mk ⟨⟨?_,?_⟩,⟨z1,q7⟩,p.2.1.map sg,by',r12.1.map sg,p2,q5,f3,c1,z3,z2⟩
    ·simpa[Qh4] using ename
    ·dsimp only;rw[eh];omega
def nLow:Str:=[108,111,119]
def QkU:Str:=[104,105,103,104]
def Qmv:Str:=[115,105,122,101]
def QkV (q:Ks) (r:Qo):Prop:=r.Kind=q.1∧(∃p:Str,r.Name=p++q.1.take 1)∧((r.A=nLow∧r.B=QkU∧∃g∈q.2,g.1=nLow)∨((∃g∈q.2,g.1=Qmv)∧((r.A=Qmv∧r.B=[])∨(r.A=[]∧r.B=Qmv))))
def rule_w {m:Qn} {k:Qg} (hm:MOk m) (hf:k.Fields.length≤1000) (h0:1≤k.Name.length) (h1:k.Name.length≤1000):Ok (Qbh m k) (fun r=>(r.2.1=true→QkV (ks k) r.1)∧MOk r.2.2):=by
 unfold Qbh;have hs:sub k.Name 0 1=some (k.Name.take 1):=by unfold sub;rw[Zc ⟨by decide,by decide,by omega⟩];rfl
 have hl:(k.Name.take 1).length≤1:=by rw[Yb];omega
 have sgm:∀{n:Str},(∃f∈k.Fields,f.Name=n)→∃g∈(ks k).2,g.1=n:=fun⟨f,hf,e⟩=>⟨sg f,Ya hf,e⟩;rw[hs];simp only[Za];refine (Qqo hf).bind fun a ha=>(Qqo hf).bind fun b hb=>?_;refine Ok.opt (P:=fun r:Int×Qn=>MOk r.2) (fun h=>(QdH hm (by decide)).weak fun r h=>h.2.2) fun r1 h1=>?_;have m1:MOk (bif (decide (a≥(0:Int)))==true then r1.2 else m):=Qdm (fun h=>h1 (by rw[h];rfl)) hm;refine Ok.ite (fun h=>Ok.cat (by simp;omega) (Ok.take m1 (by decide) fun v m2 a2 b2 h2=>Ok.mk ⟨fun _=>?_,h2⟩)) (fun _=>?_)
 ·simp only[Zg,Zj] at h;exact⟨rfl,⟨_,rfl⟩,.inl ⟨rfl,rfl,sgm (ha.2.2 h.1)⟩⟩
 refine Ok.ite (fun _=>Ok.mk ⟨fun h=>(by cases h),m1⟩) (fun h=>?_);have hb0:¬b<0:=ZL h;refine Ok.idx (by omega) hb.1.2 fun f hf _=>Ok.take m1 (by decide) fun r2 m2 _ _ h2=>?_;refine Ok.ite (fun _=>Ok.cat (by simp;omega) (Ok.take h2 (by decide) fun v m2 a2 b2 h2=>Ok.mk ⟨fun _=>?_,h2⟩)) (fun _=>Ok.cat (by simp;omega) (Ok.take h2 (by decide) fun v m2 a2 b2 h2=>Ok.mk ⟨fun _=>?_,h2⟩))
 ·exact⟨rfl,⟨_,rfl⟩,.inr ⟨sgm (hb.2.2 (by omega)),.inl ⟨rfl,rfl⟩⟩⟩
 ·exact⟨rfl,⟨_,rfl⟩,.inr ⟨sgm (hb.2.2 (by omega)),.inr ⟨rfl,rfl⟩⟩⟩
set_option maxHeartbeats 1000000 in
def QtP {m:Qn} {l:List Qg} {N:Nat} (hm:MOk m) (hl:l.length≤2) (hN:N≤20) (hk:∀k∈l,KV N k):
  Ok (Qbg m l) (fun r=>(KV 9 r.1∧(l.length≤1→KV 8 r.1)∧(l.length=0→KV 5 r.1))∧MOk r.2.1∧r.2.2.length=l.length∧∀k∈r.2.2,KV (N+1) k):=by
 unfold Qbg;refine Ok.take hm (by decide) fun r1 m1 a1 b1 h1=>?_;refine Ok.idx a1 (by simpa using b1) fun lo hlo _=>?_;refine Ok.idx (by omega) (by simp;omega) fun name hname _=>?_;have hsn:Q8 name=true:=by simp only[Zm,Zv,ZE] at hname;rcases hname with rfl | rfl | rfl<;>decide
 have hlo2:0≤lo∧lo≤4:=by simp only[Zm,Zv,ZE] at hlo;omega
 refine Ok.take h1 (by decide) fun r2 m2 a2 b2 h2=>?_;refine Ok.take h2 (by decide) fun r3 m3 a3 b3 h3=>?_;refine Ok.idx a3 (by simpa using b3) fun id0 hid _=>?_;have hid2:VF ⟨[105,100],[],[],0,id0,0,[],[]⟩:=by simp only[Zm,Zv,ZE] at hid;exact vf_key (by decide) (by omega)
 have hone:∀f∈([⟨[105,100],[],[],0,id0,0,[],[]⟩]:List Qc),VF f:=fun f hf=>by rw[Ze] at hf;subst hf;exact hid2
 refine Ok.rm (by simp) ?_;refine Ok.bind (P:=fun p:Qn×List Qc×List Qg=>MOk p.1∧(p.2.1.length≤4∧(l.length=0→p.2.1.length≤1))∧(∀f∈p.2.1,VF f)∧p.2.2.length=l.length∧∀k∈p.2.2,KV (N+1) k)
  (Ok.ite (fun hpos=>?_) (fun _=>Ok.mk ⟨h3,⟨by simp,by simp⟩,hone,rfl,fun k h=>(hk k h).weak (by omega)⟩)) fun p hp=>?_
 ·have hpos':(0:Int)<l.length:=ZA hpos;refine Ok.take h3 (by omega) fun to m4 a4 b4 h4=>?_;refine Ok.idx a4 b4 fun kt hkt ekt=>?_;refine Ok.take h4 (by decide) fun r5 m5 a5 b5 h5=>?_;refine Ok.idx a5 (by simpa using b5) fun hi hhi _=>?_;have hhi2:2≤hi∧hi≤8:=by
   simp only[Zm,Zv,ZE] at hhi;omega
  refine Ok.take h5 (by decide) fun r6 m6 _ _ h6=>?_;have skt:=(hk kt hkt).2.2.1;refine Ok.bind (P:=VF) (Ok.ite (fun _=>Ok.mk (Qr2 (by decide) skt (by omega))) (fun _=>Ok.mk (Qr2 (by decide) skt (by omega)))) fun f hf=>?_;refine Ok.rm (by simp) ?_;refine Ok.idx a4 b4 fun kt1 hkt1 _=>?_;refine (Qpl (by have:=(hk _ hkt1).1;omega)).bind fun c hc=>?_;refine Ok.opt (P:=fun r:Int×Qn=>MOk r.2) (fun h=>(QdH h6 (by decide)).weak fun r h=>h.2.2) fun r7 h7=>?_;have m7:MOk (bif (decide (c≥(0:Int)))==true then r7.2 else m6):=Qdm (fun h=>h7 (by rw[h];rfl)) h6;refine Ok.bind (P:=fun p:List Qc=>p.length≤3∧∀f∈p,VF f) (Ok.ite (fun h=>?_) (fun _=>Ok.mk ⟨by simp,?_⟩)) fun fs hfs=>?_
  ·simp only[Zg,Zj] at h;refine Ok.idx a4 b4 fun kt2 hkt2 ekt2=>?_;have e:kt2=kt1:=by simp_all
   subst e;refine Ok.idx h.1 hc.2 fun g hg _=>Ok.rm (by simp) (Ok.mk ⟨by simp,?_⟩);have sg:=((hk _ hkt1).2.1 g hg).name;intro x hx;simp only[Yg,Yq,Zm,Zv,ZE] at hx;rcases hx with rfl | rfl | rfl
   ·exact hid2
   ·exact hf
   ·exact QCm (by decide) sg (by decide)
  ·intro x hx;simp only[Yg,Yq,Zm,Zv,ZE] at hx;rcases hx with rfl | rfl
   ·exact hid2
   ·exact hf
  ·refine Ok.idx a4 b4 fun kt3 hkt3 ekt3=>?_;refine (QhW (by have:=(hk _ hkt3).1;omega)).bind fun tot htot=>?_;refine Ok.opt (P:=fun r:Int×Qn=>MOk r.2) (fun h=>(QdH m7 (by decide)).weak fun r h=>h.2.2) fun r8 h8=>?_;have m8:MOk (bif (decide (tot<(0:Int)))==true then r8.2 else (bif (decide (c≥(0:Int)))==true then r7.2 else m6)):=Qdm (fun h=>h8 (by rw[h];rfl)) m7;refine Ok.bind (P:=fun p:Qn×List Qc×List Qg=>MOk p.1∧(p.2.1.length≤4∧(l.length=0→p.2.1.length≤1))∧(∀f∈p.2.1,VF f)∧p.2.2.length=l.length∧∀k∈p.2.2,KV (N+1) k)
    (Ok.ite (fun h=>?_) (fun _=>Ok.mk ⟨m8,⟨by have:=hfs.1;dsimp only;omega,fun h0=>by omega⟩,hfs.2,rfl,fun k h=>(hk k h).weak (by omega)⟩)) fun p hp=>Ok.mk hp
   refine Ok.take m8 (by decide) fun r9 m9 a9 b9 h9=>Ok.take h9 (by decide) fun r10 m10 a10 b10 h10=>?_;refine Ok.rm (by have:=hfs.1;simp;omega) ?_;refine Ok.idx a4 b4 fun kt4 hkt4 ekt4=>?_;have hk4:=hk _ hkt4;have hk41:=hk4.1;refine Ok.rm (by simp;omega) (Ok.rm (by simp;omega) ?_);refine Ok.idx a4 b4 fun kt5 hkt5 ekt5=>?_;have e:kt5=kt4:=by simp_all
   subst e;refine Ok.setAt a4 b4 (Ok.mk ⟨h10,⟨?_,fun h0=>by omega⟩,?_,?_,?_⟩)
   ·have:=hfs.1;simp;omega
   ·intro x hx;rcases Zp.1 hx with hx | hx
    ·exact hfs.2 x hx
    ·rw[Ze] at hx;subst hx;rw[w64 (n:=r9+r10) (by omega) (by omega)];exact QzD (by decide) (by decide) (by decide) (by omega)
   ·simp
   ·intro k hkm;rcases mem_or_eq_of_mem_set hkm with hkm | rfl
    ·exact (hk k hkm).weak (by omega)
    ·refine⟨?_,?_,hk4.2.2⟩
     ·simp;omega
     ·intro x hx;rcases Zp.1 hx with hx | hx
      ·exact hk4.2.1 x (by simpa using hx)
      ·rw[Ze] at hx;subst hx;exact vf_sum (by decide) hsn
 ·obtain⟨q1,⟨q2,q6⟩,q3,q4,q5⟩:=hp;refine Ok.opt (P:=fun r:Int×Qn=>MOk r.2) (fun h=>(QdH q1 (by decide)).weak fun r h=>h.2.2) fun r11 h11=>?_;have m11:MOk (bif (decide ((l.length:Int)>(1:Int)))==true then r11.2 else p.1):=Qdm (fun h=>h11 (by rw[h];rfl)) q1;refine Ok.bind (P:=fun p:List Qc=>(p.length≤5∧(l.length≤1→p.length≤4)∧(l.length=0→p.length≤1))∧∀f∈p,VF f) (Ok.ite (fun h=>?_) (fun _=>Ok.mk ⟨⟨by omega,fun _=>q2,q6⟩,q3⟩)) fun fs hfs=>?_
  ·simp only[Zg,Zj] at h;refine Ok.idx (by decide) (by omega) fun k0 hk0 _=>Ok.rm (by simp;omega) (Ok.mk ⟨⟨by simp;omega,fun h1=>by omega,fun h1=>by omega⟩,?_⟩);intro x hx;rcases Zp.1 hx with hx | hx
   ·exact q3 x hx
   ·rw[Ze] at hx;subst hx;exact Qr2 (by decide) (q5 k0 hk0).2.2.1 (by decide)
  ·refine (QtN m11).bind fun r12 h12=>?_;obtain⟨c1,c2,c3⟩:=h12;obtain⟨⟨f1,f3,f4⟩,f2⟩:=hfs;refine Ok.rm (by omega) ?_;refine Ok.take c3 (by decide) fun r13 m13 _ _ h13=>?_;have all7:∀f∈fs++r12.1,VF f:=fun x hx=>(Zp.1 hx).elim (f2 x) (c2 x);have len7:(fs++r12.1).length≤7∧(l.length≤1→(fs++r12.1).length≤6)∧(l.length=0→(fs++r12.1).length≤3):=by
    rw[Zi];exact⟨by omega,fun h=>by have:=f3 h;omega,fun h=>by have:=f4 h;omega⟩
   obtain⟨len7,len6,len3⟩:=len7;have eh:i64.wrap (lo+r2)=lo+r2:=w64 (by omega) (by omega);refine Ok.bind (P:=fun p:Qn×List Qc=>MOk p.1∧(p.2.length≤9∧(l.length≤1→p.2.length≤8)∧(l.length=0→p.2.length≤5))∧∀f∈p.2,VF f) (Ok.ite (fun h=>?_) (fun _=>Ok.mk ⟨h13,⟨by dsimp only;omega,fun h=>by have:=len6 h;dsimp only;omega,fun h=>by have:=len3 h;dsimp only;omega⟩,all7⟩)) fun p52 hp52=>Ok.mk ⟨⟨⟨hp52.2.1.1,hp52.2.2,hsn,?_⟩,fun h=>⟨hp52.2.1.2.1 h,hp52.2.2,hsn,?_⟩,fun h=>⟨hp52.2.1.2.2 h,hp52.2.2,hsn,?_⟩⟩,hp52.1,q4,q5⟩
   rotate_left
   ·dsimp only;rw[eh];omega
   ·dsimp only;rw[eh];omega
   ·dsimp only;rw[eh];omega
   refine (QtN h13).bind fun r14 h14=>?_;obtain⟨d1,d2,d3⟩:=h14;refine Ok.opt (P:=fun _=>True) (fun h=>?_) fun g _=>?_
   ·have h':(r14.1.length:Int)>0:=by simpa using h
    exact (Ok.idx (by decide) (by omega) fun v _ _=>Ok.mk trivial:Ok ((idx r14.1 0).bind some) _).weak (fun _ h=>h) |> fun h=>by simpa using h
   refine Ok.opt (P:=fun _=>True) (fun h=>(QhW (by omega)).weak fun _ _=>trivial) fun g2 _=>?_;refine Ok.bind (P:=fun p:List Qc=>(p.length≤9∧(l.length≤1→p.length≤8)∧(l.length=0→p.length≤5))∧∀f∈p,VF f) (Ok.ite (fun h=>Ok.rm (by omega) (Ok.mk ⟨⟨by rw[Zi];omega,fun h=>by rw[Zi];have:=len6 h;omega,fun h=>by rw[Zi];have:=len3 h;omega⟩,fun x hx=>(Zp.1 hx).elim (all7 x) (d2 x)⟩)) (fun _=>Ok.mk ⟨⟨by omega,fun h=>by have:=len6 h;omega,fun h=>by have:=len3 h;omega⟩,all7⟩)) fun p64 hp64=>Ok.mk ⟨d3,hp64.1,hp64.2⟩
def QpP {s:Str} (h:Q8 s=true):∀c∈s,(QeX (c.toNat:Int)||QiV (c.toNat:Int))=true:=by unfold Q8 at h;simp only[Zg] at h;intro c hc;have h3:=h.2.2;unfold QW at h3;rw[all_map] at h3;exact Zt.1 h3 c hc
def QlV {a r:Str} (ha:Q8 a=true) (hl:a.length≤10) (hr:r.length=1) (hm:∀c∈r,(QeX (c.toNat:Int)||QiV (c.toNat:Int))=true):Q8 (a++r)=true:=by
 cases a with
 | nil=>cases ha
 | cons b a=>
  have hall:=QpP ha;unfold Q8 at ha ⊢;simp only[Zg,Yq] at ha ⊢;refine⟨Qhl (by simp only[ZB,Zi] at hl ⊢;omega),ha.2.1,?_⟩;unfold QW;rw[all_map,Zt];intro c hc;rw[←Yq] at hc;rcases Zp.1 hc with hc | hc
  ·exact hall c hc
  ·exact hm c hc
def QCn {m:Qn} {k:Qg} (hm:MOk m) (hk:KV 9 k):Ok (Qbh m k) (fun r=>(r.2.1=true→QcQ r.1=true)∧MOk r.2.2):=by
 unfold Qbh;obtain⟨k1,k2,ks,_⟩:=hk;have kl:=Qe4 ks;have k0:1≤k.Name.length:=by unfold Q8 at ks;simp only[Zg] at ks;have:=(QbU ks.1).1;omega
 refine (QhW (by omega)).bind fun a ha=>(QhW (by omega)).bind fun b hb=>?_;refine Ok.opt (P:=fun r:Int×Qn=>MOk r.2) (fun h=>(QdH hm (by decide)).weak fun r h=>h.2.2) fun r1 h1=>?_;have m1:MOk (bif (decide (a≥(0:Int)))==true then r1.2 else m):=Qdm (fun h=>h1 (by rw[h];rfl)) hm;have nm:∀{β:Type} {Q:β→Prop} {f:Str→Option β},(∀r:Str,r.length=1→(∀c∈r,(QeX (c.toNat:Int)||QiV (c.toNat:Int))=true)→Ok (f r) Q)→Ok ((sub k.Name 0 1).bind f) Q:=fun h=>Ok.sub (by decide) (by decide) (by omega) fun r hr hrm=>h r (by simpa using hr) fun c hc=>QpP ks c (hrm c hc);have fin:∀{n a b:Str} {v:Int},Q8 n=true→((a==[])||Q8 a)=true→((b==[])||Q8 b)=true→(a++b !=[])=true→-2000≤v∧v≤2000→QcQ ⟨n,k.Name,a,b,v⟩=true:=fun h1 h2 h3 h4 h5=>by unfold QcQ;simp only[h1,ks,h2,h3,h4,Bool.true_and,Bool.and_self];exact Qhl (by omega)
 refine Ok.ite (fun _=>nm fun r hr hm=>Ok.cat (by simp;omega) (Ok.take m1 (by decide) fun v m2 a2 b2 h2=>Ok.mk ⟨fun _=>?_,h2⟩)) (fun _=>?_)
 ·dsimp only;rw[w64 (n:=v - 2) (by omega) (by omega)];exact fin (QlV (by decide) (by decide) hr hm) (by decide) (by decide) (by decide) (by omega)
 refine Ok.ite (fun _=>Ok.mk ⟨fun h=>(by cases h),m1⟩) (fun h=>?_);have hb0:¬b<0:=ZL h;refine Ok.idx (by omega) hb.2 fun f hf _=>Ok.take m1 (by decide) fun r2 m2 _ _ h2=>?_;obtain⟨_,_,hlo,hhi⟩:=k2 f hf;refine Ok.ite (fun _=>nm fun r hr hm=>Ok.cat (by simp;omega) (Ok.take h2 (by decide) fun v m2 a2 b2 h2=>Ok.mk ⟨fun _=>?_,h2⟩)) (fun _=>nm fun r hr hm=>Ok.cat (by simp;omega) (Ok.take h2 (by decide) fun v m2 a2 b2 h2=>Ok.mk ⟨fun _=>?_,h2⟩))
 ·dsimp only;rw[w64 (n:=f.Lo+v) (by omega) (by omega)];exact fin (QlV (by decide) (by decide) hr hm) (by decide) (by decide) (by decide) (by omega)
 ·dsimp only;rw[w64 (n:=v - f.Hi) (by omega) (by omega)];exact fin (QlV (by decide) (by decide) hr hm) (by decide) (by decide) (by decide) (by omega)
def bdN (n:Nat):Nat:=if n≤1 then 5 else if n≤2 then 8 else 9
def QzF {l:List Int} (hl:∀x∈l,I64 x):Ok (QbW l) (fun x=>Tiny x∧Qfr x=true∧∀k∈x.Kinds,KV 9 k):=by
 unfold QbW;refine Ok.sub (by decide) (by unfold imin;split<;>omega) (by unfold imin;split<;>omega) fun w _ hw=>?_;have h0:MOk (Qn.mk w 0):=fun x hx=>hl x (hw x hx);refine Ok.take h0 (by decide) fun v m1 av bv h1=>Ok.take h1 (by decide) fun n m2 a2 b2 h2=>?_;have en:i64.wrap (1+n)=1+n:=w64 (by omega) (by omega);refine Ok.bind (P:=fun p:List Qg×Qn=>p.1.length=1+n∧(∀k∈p.1,KV 9 k)∧MOk p.2)
  (Ok.loop (fun k s=>0≤s.1∧s.1+k=1+n∧s.2.1.length=s.1∧(∀q∈s.2.1,KV (bdN s.1.toNat) q)∧MOk s.2.2) (1+n).toNat ⟨Zy _,by dsimp only;omega,by simp,by simp,h2⟩ fun k s hs=>?_) (fun p hp=>?_)
 ·obtain⟨i,ks,m3⟩:=s;obtain⟨e1,e2,e3,e4,e5⟩:=hs;dsimp only at e1 e2 e3 e4 e5;have hbd:bdN i.toNat≤9:=by unfold bdN;split<;>(try split)<;>omega
  refine Ok.ite (fun h=>?_) (fun h=>?_)
  ·have h':i<1+n:=by have:=ZA h;rwa [en] at this
   refine (QtP (N:=bdN i.toNat) e5 (by omega) (by omega) e4).bind fun r hr=>?_;obtain⟨⟨r1,r5,r6⟩,r2,r3,r4⟩:=hr;refine Ok.rm (by simp;omega) (Ok.mk ?_);have ei:i64.wrap (i+1)=i+1:=w64 (by omega) (by omega);refine⟨k - 1,by omega,?_⟩;dsimp only;rw[ei];refine⟨by omega,by omega,by simp;omega,fun q hq=>?_,r2⟩;have hi:i=0∨i=1∨i=2:=by omega
   rcases Zp.1 hq with hq | hq
   ·refine (r4 q hq).weak ?_;rcases hi with rfl | rfl | rfl
    ·have:ks.length=0:=by omega
     rw[length_eq_zero_iff.1 (by rw[r3,this]:r.2.2.length=0)] at hq;cases hq
    ·decide
    ·decide
   ·rw[Ze] at hq;subst hq;rcases hi with rfl | rfl | rfl
    ·exact r6 (by omega)
    ·exact r5 (by omega)
    ·exact r1
  ·have h':¬i<1+n:=by have:=ZL h;rwa [en] at this
   refine Ok.mk ⟨by dsimp only;omega,fun q hq=>(e4 q hq).weak hbd,e5⟩
 obtain⟨p1,p2,p3⟩:=hp;refine Ok.take p3 (by decide) fun t m4 a4 b4 h4=>?_;have et:i64.wrap (2+t)=2+t:=w64 (by omega) (by omega);refine Ok.sub (by decide) (by dsimp only;rw[et];omega) (by dsimp only;rw[et];simp;omega) fun st hst hsm=>?_;dsimp only at hst;rw[et] at hst;have hsl:2≤st.length∧st.length≤4:=by omega
 have hsn:st.all Q8=true:=by rw[Zt];intro s hs;have:=hsm s hs;simp only[Zm,Zv,ZE] at this;rcases this with rfl | rfl | rfl | rfl<;>decide
 have mv:∀{a b:Int},0≤a∧a<st.length→0≤b∧b<st.length→QeE (st.length:Int) ⟨a,b⟩=true:=fun h1 h2=>by unfold QeE;rw[Qhl (by dsimp only;omega),Qhl (by dsimp only;omega)];rfl
 refine Ok.bind (P:=fun p:List QK=>p.length≤3∧∀m∈p,QeE (st.length:Int) m=true) (Ok.loop (fun k s=>0≤s.1∧s.1+1+k=st.length∧s.2.length=s.1∧∀m∈s.2,QeE (st.length:Int) m=true) (st.length - 1) ⟨Zy _,by dsimp only;omega,by simp,by simp⟩ fun k s hs=>?_) (fun mvs hmv=>?_)
 ·obtain⟨i,ms⟩:=s;obtain⟨e1,e2,e3,e4⟩:=hs;dsimp only at e1 e2 e3 e4;have ei:i64.wrap (i+1)=i+1:=w64 (by omega) (by omega);refine Ok.ite (fun h=>?_) (fun h=>?_)
  ·have h':i+1<st.length:=by have:=ZA h;rwa [ei] at this
   refine Ok.rm (by simp;omega) (Ok.mk ⟨k - 1,by omega,?_⟩);dsimp only;rw[ei];refine⟨by omega,by omega,by simp;omega,fun q hq=>?_⟩;rcases Zp.1 hq with hq | hq
   ·exact e4 q hq
   ·rw[Ze] at hq;subst hq;exact mv (by omega) (by omega)
  ·have h':¬i+1<st.length:=by have:=ZL h;rwa [ei] at this
   exact Ok.mk ⟨by dsimp only;omega,e4⟩
 obtain⟨hmv,hmm⟩:=hmv;have addm:∀{ms:List QK} {m:QK},(∀q∈ms,QeE (st.length:Int) q=true)→QeE (st.length:Int) m=true→∀q∈ms++[m],QeE (st.length:Int) q=true:=fun h1 h2 q hq=>by
  rcases Zp.1 hq with hq | hq
  ·exact h1 q hq
  ·rw[Ze] at hq;subst hq;exact h2
 refine Ok.take h4 (by decide) fun r5 m5 _ _ h5=>?_;refine Ok.bind (P:=fun p:List QK=>p.length≤4∧∀m∈p,QeE (st.length:Int) m=true) (Ok.ite (fun _=>Ok.rm (by simp;omega) (Ok.mk ⟨by simp;omega,addm hmm (mv (by omega) (by omega))⟩)) (fun _=>Ok.mk ⟨by omega,hmm⟩)) fun mv2 hmv2=>?_;obtain⟨hmv2,hmm2⟩:=hmv2;refine Ok.take h5 (by decide) fun r6 m6 _ _ h6=>?_;have es:i64.wrap ((st.length:Int) - 1)=(st.length:Int) - 1:=w64 (by omega) (by omega);refine Ok.bind (P:=fun p:List QK=>p.length≤5∧∀m∈p,QeE (st.length:Int) m=true) (Ok.ite (fun _=>Ok.rm (by simp;omega) (Ok.mk ⟨by simp;omega,by rw[es];exact addm hmm2 (mv (by omega) (by omega))⟩)) (fun _=>Ok.mk ⟨by omega,hmm2⟩)) fun mv3 hmv3=>?_;obtain⟨hmv3,hmm3⟩:=hmv3;refine Ok.rm (by simp) ?_;refine Ok.bind (P:=fun p:List Qo=>p.length≤2∧∀r∈p,QcQ r=true) (Ok.loop (fun k s=>0≤s.1∧s.1+k=1+n∧(s.2.1.length≤2∧∀r∈s.2.1,QcQ r=true)∧MOk s.2.2) (1+n).toNat ⟨Zy _,by dsimp only;omega,by simp,h6⟩ fun k s hs=>?_) (fun rs hrs=>?_)
 ·obtain⟨i,rs,m7⟩:=s;obtain⟨e1,e2,e3,e4⟩:=hs;dsimp only at e1 e2 e3 e4;refine Ok.ite (fun h=>?_) (fun h=>Ok.mk e3);simp only[Zg,Zj,en] at h;refine Ok.idx e1 (by omega) fun q hq _=>(QCn e4 (p2 q hq)).bind fun r hr=>?_;refine Ok.bind (P:=fun p:List Qo=>p.length≤2∧∀r∈p,QcQ r=true) (Ok.ite (fun hy=>Ok.rm (by simp;omega) (Ok.mk ⟨by simp;omega,fun y hy2=>(Zp.1 hy2).elim (e3.2 y) fun hy3=>by rw[Ze] at hy3;subst hy3;exact hr.1 hy⟩)) (fun _=>Ok.mk e3)) fun rs2 hrs2=>Ok.mk ⟨k - 1,by omega,?_⟩;dsimp only;rw[w64 (n:=i+1) (by omega) (by omega)];exact⟨by omega,by omega,hrs2,hr.2⟩
 ·refine Ok.mk ⟨⟨by dsimp only;omega,fun k hk f hf=>((p2 k hk).2.1 f hf).2.1,by simp,?_,hrs.1⟩,?_,p2⟩
  ·intro q hq;simp only[Yg,Ze] at hq;subst hq;exact⟨by dsimp only;omega,by dsimp only;omega⟩
  ·have hk:p.1.all kindS=true:=by
    rw[Zt];intro k hk;obtain⟨c1,c2,c3,c4⟩:=p2 k hk;unfold kindS;simp only[Zg,Zj,Zt];exact⟨⟨⟨c3,QiD c4⟩,by omega⟩,fun f hf=>(c2 f hf).1⟩
   have hlf:Qge ⟨[108,105,102,101],st,mv3⟩=true:=by unfold Qge;simp only[Zg,Zj];exact⟨⟨⟨⟨by decide,Qhl (by omega)⟩,hsn⟩,by omega⟩,Zt.2 hmm3⟩
   unfold Qfr;simp only[Zg,Zj];refine⟨⟨⟨⟨⟨⟨Qhl (by omega),by omega⟩,by simp⟩,by have:=hrs.1;omega⟩,hk⟩,?_⟩,Zt.2 hrs.2⟩;simp[hlf]
inductive QbM:List Ks→Prop
 | nil:QbM []
 | snoc {T:List Ks} {q:Ks} {T':List Ks} (h:QbM T) (hl:T.length≤2) (hn:Qh4[T.length]?=some q.1) (hk:Qd3 T q T'):QbM (T'++[q])
def QgC (K:List Qg) (i:Int) (R:List Qo):Prop:=∃ps:List (Nat×Qo),ps.map Prod.snd=R∧(ps.map Prod.fst).Pairwise (·< ·)∧∀p∈ps,(p.1:Int)<i∧∃k,K[p.1]?=some k∧QkV (ks k) p.2
def QzG {l:List Int} (hl:∀x∈l,I64 x):Ok (QbW l) (fun x=>(QbM (x.Kinds.map ks)∧(∀k∈x.Kinds,k.Hi - k.Lo≤29)∧1≤x.Kinds.length)∧(∃L,x.Lives=[L]∧L.Name=[108,105,102,101])∧∃n,QgC x.Kinds n x.Rules):=by
 unfold QbW;refine Ok.sub (by decide) (by unfold imin;split<;>omega) (by unfold imin;split<;>omega) fun w _ hw=>?_;have h0:MOk (Qn.mk w 0):=fun x hx=>hl x (hw x hx);refine Ok.take h0 (by decide) fun v m1 av bv h1=>Ok.take h1 (by decide) fun n m2 a2 b2 h2=>?_;have en:i64.wrap (1+n)=1+n:=w64 (by omega) (by omega);refine Ok.bind (P:=fun p:List Qg×Qn=>(p.1.length=1+n∧(∀k∈p.1,KV 9 k)∧MOk p.2)∧QbM (p.1.map ks)∧∀k∈p.1,k.Hi - k.Lo≤29)
  (Ok.loop (fun k s=>(0≤s.1∧s.1+k=1+n∧s.2.1.length=s.1∧(∀q∈s.2.1,KV (bdN s.1.toNat) q)∧MOk s.2.2)∧QbM (s.2.1.map ks)∧∀k∈s.2.1,k.Hi - k.Lo≤29) (1+n).toNat ⟨⟨Zy _,by dsimp only;omega,by simp,by simp,h2⟩,QbM.nil,by simp⟩ fun k s hs=>?_) (fun p hp=>?_)
 ·obtain⟨i,ks',m3⟩:=s;obtain⟨⟨e1,e2,e3,e4,e5⟩,e6,e7⟩:=hs;dsimp only at e1 e2 e3 e4 e5 e6 e7;have hbd:bdN i.toNat≤9:=by unfold bdN;split<;>(try split)<;>omega
  refine Ok.ite (fun h=>?_) (fun h=>?_)
  ·have h':i<1+n:=by have:=ZA h;rwa [en] at this
   refine (Ok.and (QtP (N:=bdN i.toNat) e5 (by omega) (by omega) e4) (kind_w (N:=bdN i.toNat) e5 (by omega) (by omega) (fun q hq=>(e4 q hq).1) e7)).bind fun r hr=>?_;obtain⟨⟨⟨r1,r5,r6⟩,r2,r3,r4⟩,⟨w1,w2⟩,⟨_,w3⟩,w4⟩:=hr;refine Ok.rm (by simp;omega) (Ok.mk ?_);have ei:i64.wrap (i+1)=i+1:=w64 (by omega) (by omega);refine⟨k - 1,by omega,?_⟩;dsimp only;rw[ei];refine⟨⟨by omega,by omega,by simp;omega,fun q hq=>?_,r2⟩,?_,fun q hq=>?_⟩
   ·have hi:i=0∨i=1∨i=2:=by omega
    rcases Zp.1 hq with hq | hq
    ·refine (r4 q hq).weak ?_;rcases hi with rfl | rfl | rfl
     ·have:ks'.length=0:=by omega
      rw[length_eq_zero_iff.1 (by rw[r3,this]:r.2.2.length=0)] at hq;cases hq
     ·decide
     ·decide
    ·rw[Ze] at hq;subst hq;rcases hi with rfl | rfl | rfl
     ·exact r6 (by omega)
     ·exact r5 (by omega)
     ·exact r1
   ·rw[ZV];exact QbM.snoc e6 (by rw[ZT];omega) (by rw[ZT];exact w1) w4
   ·rcases Zp.1 hq with hq | hq
    ·exact w3 q hq
    ·rw[Ze] at hq;subst hq;exact w2
  ·have h':¬i<1+n:=by have:=ZL h;rwa [en] at this
   exact Ok.mk ⟨⟨by dsimp only;omega,fun q hq=>(e4 q hq).weak hbd,e5⟩,e6,e7⟩
 obtain⟨⟨p1,p2,p3⟩,p4,p5⟩:=hp;refine Ok.take p3 (by decide) fun t m4 a4 b4 h4=>?_;have et:i64.wrap (2+t)=2+t:=w64 (by omega) (by omega);refine Ok.sub (by decide) (by dsimp only;rw[et];omega) (by dsimp only;rw[et];simp;omega) fun st hst hsm=>?_;dsimp only at hst;rw[et] at hst;have hsl:2≤st.length∧st.length≤4:=by omega
 refine Ok.bind (P:=fun p:List QK=>p.length≤3) (Ok.loop (fun k s=>0≤s.1∧s.1+1+k=st.length∧s.2.length=s.1) (st.length - 1) ⟨Zy _,by dsimp only;omega,by simp⟩ fun k s hs=>?_) (fun mvs hmv=>?_)
 ·obtain⟨i,ms⟩:=s;obtain⟨e1,e2,e3⟩:=hs;dsimp only at e1 e2 e3;have ei:i64.wrap (i+1)=i+1:=w64 (by omega) (by omega);refine Ok.ite (fun h=>?_) (fun h=>?_)
  ·have h':i+1<st.length:=by have:=ZA h;rwa [ei] at this
   refine Ok.rm (by simp;omega) (Ok.mk ⟨k - 1,by omega,?_⟩);dsimp only;rw[ei];exact⟨by omega,by omega,by simp;omega⟩
  ·have h':¬i+1<st.length:=by have:=ZL h;rwa [ei] at this
   exact Ok.mk (by dsimp only;omega)
 refine Ok.take h4 (by decide) fun r5 m5 _ _ h5=>?_;refine Ok.bind (P:=fun p:List QK=>p.length≤4) (Ok.ite (fun _=>Ok.rm (by simp;omega) (Ok.mk (by simp;omega))) (fun _=>Ok.mk (by omega))) fun mv2 hmv2=>?_;refine Ok.take h5 (by decide) fun r6 m6 _ _ h6=>?_;refine Ok.bind (P:=fun p:List QK=>p.length≤5) (Ok.ite (fun _=>Ok.rm (by simp;omega) (Ok.mk (by simp;omega))) (fun _=>Ok.mk (by omega))) fun mv3 hmv3=>?_;refine Ok.rm (by simp) ?_;refine Ok.bind (P:=fun R:List Qo=>∃n,QgC p.1 n R) (Ok.loop (fun k s=>0≤s.1∧s.1+k=1+n∧(s.2.1.length≤2∧QgC p.1 s.1 s.2.1)∧MOk s.2.2) (1+n).toNat ⟨Zy _,by dsimp only;omega,⟨by simp,[],rfl,by simp,by simp⟩,h6⟩ fun k s hs=>?_) (fun rs hrs=>?_)
 ·obtain⟨i,rs,m7⟩:=s;obtain⟨e1,e2,e3,e4⟩:=hs;dsimp only at e1 e2 e3 e4;refine Ok.ite (fun h=>?_) (fun h=>Ok.mk ⟨i,e3.2⟩);simp only[Zg,Zj,en] at h;refine Ok.idx e1 (by omega) fun q hq eq=>?_;obtain⟨k1,_,ksn,_⟩:=p2 q hq;have kl:=Qe4 ksn;have k0:1≤q.Name.length:=by
   unfold Q8 at ksn;simp only[Zg] at ksn;have:=(QbU ksn.1).1;omega
  refine (rule_w e4 (by omega) k0 (by omega)).bind fun r hr=>?_;have wk:QgC p.1 (i+1) rs:=by obtain⟨ps,g1,g2,g3⟩:=e3.2;exact⟨ps,g1,g2,fun z hz=>⟨by have:=(g3 z hz).1;omega,(g3 z hz).2⟩⟩
  refine Ok.bind (P:=fun R:List Qo=>R.length≤2∧QgC p.1 (i+1) R) (Ok.ite (fun hy=>Ok.rm (by simp;omega) (Ok.mk ⟨by simp;omega,?_⟩)) (fun _=>Ok.mk ⟨e3.1,wk⟩)) fun rs2 hrs2=>Ok.mk ⟨k - 1,by omega,?_⟩
  ·obtain⟨ps,g1,g2,g3⟩:=e3.2;refine⟨ps++[(i.toNat,r.1)],by rw[ZV,g1];rfl,?_,fun z hz=>?_⟩
   ·rw[ZV,pairwise_append];refine⟨g2,by simp,fun a ha b hb=>?_⟩;obtain⟨z,hz,rfl⟩:=ZC.1 ha;simp only[Yi,Yz,Ze] at hb;subst hb;have:=(g3 z hz).1;omega
   ·rcases Zp.1 hz with hz | hz
    ·exact⟨by have:=(g3 z hz).1;omega,(g3 z hz).2⟩
    ·rw[Ze] at hz;subst hz;exact⟨by dsimp only;omega,q,eq,hr.1 hy⟩
  ·dsimp only;rw[w64 (n:=i+1) (by omega) (by omega)];exact⟨by omega,by omega,hrs2,hr.2⟩
 ·exact Ok.mk ⟨⟨p4,p5,by dsimp only;omega⟩,⟨_,rfl,rfl⟩,hrs⟩
def QCo {T:List Ks} {i:Nat} {t:Ks} {F:List Sg} (h:T[i]?=some t):(T.set i (t.1,F)).map Prod.fst=T.map Prod.fst:=by
 rw[map_set];refine ext_getElem? fun j=>?_;rw[getElem?_set];split
 ·rename_i e;subst e;have hi:i<T.length:=(Zf.1 h).1;rw[Zc (by simpa using hi),ZJ,h];rfl
 ·rfl
def Qd3.names {T:List Ks} {q:Ks} {T':List Ks} (h:Qd3 T q T'):T'.map Prod.fst=T.map Prod.fst:=by
 obtain⟨F,by',p1,p2,hp,_⟩:=h;rcases hp with⟨_,_,rfl⟩ | ⟨to,t,cp,pt,ht,_,_,h⟩
 ·rfl
 ·rcases h with⟨_,rfl⟩ | ⟨_,_,rfl⟩
  ·rfl
  ·exact QCo ht
def QbM.names {T:List Ks} (h:QbM T):T.length≤3∧T.map Prod.fst=Qh4.take T.length:=by
 induction h with
 | nil=>exact⟨by decide,rfl⟩
 | @snoc T q T' h hl hn hk ih=>
  have e:=hk.names;have el:T'.length=T.length:=by simpa using ZF length e
  rw[Zi,el];refine⟨by simpa using hl,?_⟩;rw[ZV,e,ih.2];simp only[ZB,ZS,Nat.zero_add];rw[take_add_one,hn];rfl
def presN:List (List Str):=[[sId.1],[sId.1,nOf],[sId.1,nOf,(Qiu []).1],[sId.1,nOf,Qhm.1],[sId.1,nOf,(Qiu []).1,Qhm.1]]
def bysN:List (List Str):=[[],[(sBy []).1]]
def Qmw:List (List Str):=Qbc.map fun p=>p.map Prod.fst
def Qr4 (l d:List Str):Bool:=match d with | []=>true | g::_=>!(l.contains g)
set_option maxRecDepth 100000 in
set_option maxHeartbeats 4000000 in
def Qxy:(presN.all fun a=>bysN.all fun b=>Qmw.all fun c=>Qmw.all fun d=>!Qr4 (a++b++c) d||(decide (a++b++c++d).Nodup&&!((a++b++c++d).contains QgB)))=true:=by decide+kernel
def PreS.names {T:List Ks} {nm:Str} {F:List Sg} {T':List Ks} (h:PreS T nm F T'):F.map Prod.fst∈presN:=by
 rcases h with⟨_,rfl,_⟩ | ⟨to,t,cp,pt,_,rfl,hc,hp⟩
 ·decide
 ·rcases hc with rfl | ⟨g,_,_,rfl⟩<;>rcases hp with⟨rfl,_⟩ | ⟨_,rfl,_⟩
  ·exact Zl _ (Zk ..)
  ·exact Zl _ (Zl _ (Zl _ (Zk ..)))
  ·exact Zl _ (Zl _ (Zk ..))
  ·exact Zl _ (Zl _ (Zl _ (Zl _ (Zk ..))))
def Qd3.nodup {T:List Ks} {q:Ks} {T':List Ks} (h:Qd3 T q T'):(q.2.map Prod.fst).Nodup∧QgB∉q.2.map Prod.fst:=by
 obtain⟨F,by',p1,p2,hp,hb,h1,h2,e⟩:=h;have hb':by'.map Prod.fst∈bysN:=by
  rcases hb with rfl | ⟨_,t,_,rfl⟩
  ·exact Zk ..
  ·exact Zl _ (Zk ..)
 have h1':p1.map Prod.fst∈Qmw:=Ya h1;have h2':p2.map Prod.fst∈Qmw:=by
  rcases h2 with rfl | ⟨h2,_⟩
  ·decide
  ·exact Ya h2
 have hf:Qr4 (F.map Prod.fst++by'.map Prod.fst++p1.map Prod.fst) (p2.map Prod.fst)=true:=by
  rcases h2 with rfl | ⟨_,h2⟩
  ·rfl
  ·cases p2 with
   | nil=>rfl
   | cons g r=>unfold Qr4;simp only[Yi,Ym,←ZV];rw[contains_eq_mem,ZI];intro hm;obtain⟨f,hf,e⟩:=ZC.1 hm;exact h2 g rfl f hf e
 have:=Zt.1 (Zt.1 (Zt.1 (Zt.1 Qxy _ hp.names) _ hb') _ h1') _ h2';rw[hf] at this;simp only[Bool.not_true,Bool.false_or,Zg,Zj,Ym,contains_eq_mem,ZI] at this;rw[e];simp only[ZV];exact this
def Qxz (l:List Sg):Prop:=∃r,l=sId::r∧∀f∈r,f.2.1≠0
def QoY:(Qbc.all fun p=>p.all fun f=>decide (f.2.1≠0))=true:=by decide+kernel
def Qk2 {p:List Sg} (h:p∈Qbc):∀f∈p,f.2.1≠0:=fun f hf=>by have:=Zt.1 (Zt.1 QoY p h) f hf;simpa using this
def Qd3.headed {T:List Ks} {q:Ks} {T':List Ks} (h:Qd3 T q T'):Qxz q.2:=by
 obtain⟨F,by',p1,p2,hp,hb,h1,h2,e⟩:=h;have hF:∃r,F=sId::r∧∀f∈r,f.2.1≠0:=by
  rcases hp with⟨_,rfl,_⟩ | ⟨to,t,cp,pt,_,rfl,hc,hp⟩
  ·exact⟨[],rfl,by simp⟩
  ·refine⟨_,rfl,fun f hf=>?_⟩;rcases Zm.1 hf with rfl | hf
   ·show (1:Int)≠0;decide
   ·rcases Zp.1 hf with hf | hf
    ·rcases hc with rfl | ⟨g,_,_,rfl⟩
     ·cases hf
     ·rw[Ze] at hf;subst hf;show (8:Int)≠0;decide
    ·rcases hp with⟨rfl,_⟩ | ⟨_,rfl,_⟩
     ·cases hf
     ·rw[Ze] at hf;subst hf;show (7:Int)≠0;decide
 obtain⟨r,rfl,hr⟩:=hF;refine⟨r++by'++p1++p2,by rw[e];simp,fun f hf=>?_⟩;rcases Zp.1 hf with hf | hf
 ·rcases Zp.1 hf with hf | hf
  ·rcases Zp.1 hf with hf | hf
   ·exact hr f hf
   ·rcases hb with rfl | ⟨_,t,_,rfl⟩
    ·cases hf
    ·rw[Ze] at hf;subst hf;show (1:Int)≠0;decide
  ·exact Qk2 h1 f hf
 ·rcases h2 with rfl | ⟨h2,_⟩
  ·cases hf
  ·exact Qk2 h2 f hf
def QbM.fields {T:List Ks} (h:QbM T):∀q∈T,(q.2.map Prod.fst).Nodup∧Qxz q.2:=by
 induction h with
 | nil=>intro q hq;cases hq
 | @snoc T q T' h hl hn hk ih=>
  intro z hz;rcases Zp.1 hz with hz | hz
  ·obtain⟨F,by',p1,p2,hp,_⟩:=hk;rcases hp with⟨_,_,rfl⟩ | ⟨to,t,cp,pt,ht,_,_,hp⟩
   ·exact ih z hz
   ·rcases hp with⟨_,rfl⟩ | ⟨hno,_,rfl⟩
    ·exact ih z hz
    ·rcases mem_or_eq_of_mem_set hz with hz | rfl
     ·exact ih z hz
     ·obtain⟨i1,r,i2,i3⟩:=ih t (Zq ht);refine⟨?_,r++[Qhn q.1],?_,fun f hf=>?_⟩
      ·dsimp only;rw[ZV,nodup_append];refine⟨i1,by simp,fun a ha b hb=>?_⟩;obtain⟨g,hg,rfl⟩:=ZC.1 ha;simp only[Yi,Yz,Ze] at hb;subst hb;exact hno g hg
      ·dsimp only;rw[i2];rfl
      ·rcases Zp.1 hf with hf | hf
       ·exact i3 f hf
       ·rw[Ze] at hf;subst hf;show (6:Int)≠0;decide
  ·rw[Ze] at hz;subst hz;exact⟨hk.nodup.1,hk.headed⟩
def QbM.name_at {T:List Ks} (h:QbM T) {i:Nat} {q:Ks} (e:T[i]?=some q):Qh4[i]?=some q.1:=by
 have e1:(T.map Prod.fst)[i]?=some q.1:=by rw[ZJ,e];rfl
 rw[h.names.2,getElem?_take] at e1;split at e1
 ·exact e1
 ·cases e1
def QoZ:(Qbc.all fun p=>p.all fun f=>decide (f.2.1≠1))=true:=by decide+kernel
def RefsS (i:Nat) (l:List Sg):Prop:=∀f∈l,f.2.1=1→∃t:Nat,t<i∧Qh4[t]?=some f.2.2.1
def Qd3.refs {T:List Ks} {q:Ks} {T':List Ks} (c:QbM T) (h:Qd3 T q T'):RefsS T.length q.2:=by
 have hn:=h.names;obtain⟨F,by',p1,p2,hp,hb,h1,h2,e⟩:=h;have pl:∀{p:List Sg},p∈Qbc→∀f∈p,f.2.1≠1:=fun h f hf=>by have:=Zt.1 (Zt.1 QoZ _ h) f hf;simpa using this
 intro f hf hk;rw[e] at hf;rcases Zp.1 hf with hf | hf
 ·rcases Zp.1 hf with hf | hf
  ·rcases Zp.1 hf with hf | hf
   ·rcases hp with⟨_,rfl,_⟩ | ⟨to,t,cp,pt,ht,rfl,hc,hp⟩
    ·rw[Ze] at hf;subst hf;exact absurd hk (by decide)
    ·rcases Zm.1 hf with rfl | hf
     ·exact absurd hk (by decide)
     ·rcases Zm.1 hf with rfl | hf
      ·exact⟨to,(Zf.1 ht).1,c.name_at ht⟩
      ·rcases Zp.1 hf with hf | hf
       ·rcases hc with rfl | ⟨g,_,_,rfl⟩
        ·cases hf
        ·rw[Ze] at hf;subst hf;exact absurd (show (8:Int)=1 from hk) (by decide)
       ·rcases hp with⟨rfl,_⟩ | ⟨_,rfl,_⟩
        ·cases hf
        ·rw[Ze] at hf;subst hf;exact absurd hk (by decide)
   ·rcases hb with rfl | ⟨hl,t,ht,rfl⟩
    ·cases hf
    ·rw[Ze] at hf;subst hf;have e0:T.map Prod.fst=T'.map Prod.fst:=hn.symm;have e1:(T'.map Prod.fst)[0]?=some t.1:=by rw[ZJ,ht];rfl
     rw[←e0,ZJ] at e1
     cases h0:T[0]? with
     | none=>rw[h0] at e1;cases e1
     | some z=>rw[h0] at e1;have:=c.name_at h0;exact⟨0,by omega,this.trans e1⟩
  ·exact absurd hk (pl h1 f hf)
 ·rcases h2 with rfl | ⟨h2,_⟩
  ·cases hf
  ·exact absurd hk (pl h2 f hf)
def QbM.refs {T:List Ks} (h:QbM T):∀(i:Nat) (q:Ks),T[i]?=some q→RefsS i q.2:=by
 induction h with
 | nil=>intro i q h;simp at h
 | @snoc T q T' h hl hn hk ih=>
  intro i z hz;have el:T'.length=T.length:=by simpa using ZF length hk.names
  by_cases hi:i<T'.length
  ·rw[ZN hi] at hz;obtain⟨F,by',p1,p2,hp,_⟩:=hk;rcases hp with⟨_,_,rfl⟩ | ⟨to,t,cp,pt,ht,_,_,hp⟩
   ·exact ih i z hz
   ·rcases hp with⟨_,rfl⟩ | ⟨hno,_,rfl⟩
    ·exact ih i z hz
    ·rw[getElem?_set] at hz;split at hz
     ·rename_i e;subst e;split at hz
      ·cases hz;intro f hf hk1;rcases Zp.1 hf with hf | hf
       ·exact ih _ t ht f hf hk1
       ·rw[Ze] at hf;subst hf;exact absurd (show (6:Int)=1 from hk1) (by decide)
      ·cases hz
     ·exact ih i z hz
  ·rw[ZQ (by omega)] at hz;have e0:i - T'.length=0:=by
    cases hd:i - T'.length with
    | zero=>rfl
    | succ n=>rw[hd] at hz;simp at hz
   rw[e0] at hz;cases hz;rw[show i=T.length by omega];exact hk.refs h
def Qoj:(Qbc.all fun p=>p.all fun f=>decide (f.2.1≠6∧f.2.1≠7∧f.2.1≠8))=true:=by decide+kernel
def Qd3.links {T:List Ks} {q:Ks} {T':List Ks} (h:Qd3 T q T'):∀f∈q.2,f.2.1≠6∧(f.2.1=7∨f.2.1=8→∃(to:Nat) (t:Ks),T[to]?=some t∧q.2[1]?=some (sOf t.1)∧
  ((f=Qhm∧T'[to]?=some (t.1,t.2++[Qhn q.1]))∨∃g∈t.2,(g.2.1≠0∧g.2.1≠1∧g.2.1≠6∧g.2.1≠7)∧f=Qiu g.1)):=by
 obtain⟨F,by',p1,p2,hp,hb,h1,h2,e⟩:=h;have pl:∀{p:List Sg},p∈Qbc→∀f∈p,f.2.1≠6∧f.2.1≠7∧f.2.1≠8:=fun h f hf=>by have:=Zt.1 (Zt.1 Qoj _ h) f hf;simpa using this
 have no:∀f:Sg,f.2.1≠6∧f.2.1≠7∧f.2.1≠8→f.2.1≠6∧(f.2.1=7∨f.2.1=8→∃(to:Nat) (t:Ks),T[to]?=some t∧q.2[1]?=some (sOf t.1)∧((f=Qhm∧T'[to]?=some (t.1,t.2++[Qhn q.1]))∨∃g∈t.2,(g.2.1≠0∧g.2.1≠1∧g.2.1≠6∧g.2.1≠7)∧f=Qiu g.1)):=fun f h=>⟨h.1,fun h'=>by omega⟩;intro f hf;rw[e] at hf;rcases Zp.1 hf with hf | hf
 ·rcases Zp.1 hf with hf | hf
  ·rcases Zp.1 hf with hf | hf
   ·rcases hp with⟨_,rfl,_⟩ | ⟨to,t,cp,pt,ht,rfl,hc,hp⟩
    ·rw[Ze] at hf;subst hf;exact no _ (by decide)
    ·have h1:q.2[1]?=some (sOf t.1):=by rw[e];rfl
     rcases Zm.1 hf with rfl | hf
     ·exact no _ (by decide)
     ·rcases Zm.1 hf with rfl | hf
      ·exact no _ ⟨show (1:Int)≠6 by decide,show (1:Int)≠7 by decide,show (1:Int)≠8 by decide⟩
      ·rcases Zp.1 hf with hf | hf
       ·rcases hc with rfl | ⟨g,hg,hk,rfl⟩
        ·cases hf
        ·rw[Ze] at hf;subst hf;exact⟨show (8:Int)≠6 by decide,fun _=>⟨to,t,ht,h1,.inr ⟨g,hg,hk,rfl⟩⟩⟩
       ·rcases hp with⟨rfl,_⟩ | ⟨_,rfl,rfl⟩
        ·cases hf
        ·rw[Ze] at hf;subst hf;refine⟨by decide,fun _=>⟨to,t,ht,h1,.inl ⟨rfl,?_⟩⟩⟩;rw[getElem?_set,Zc rfl,Zc (Zf.1 ht).1]
   ·rcases hb with rfl | ⟨_,t,_,rfl⟩
    ·cases hf
    ·rw[Ze] at hf;subst hf;exact no _ ⟨show (1:Int)≠6 by decide,show (1:Int)≠7 by decide,show (1:Int)≠8 by decide⟩
  ·exact no _ (pl h1 f hf)
 ·rcases h2 with rfl | ⟨h2,_⟩
  ·cases hf
  ·exact no _ (pl h2 f hf)
def Qok:Str:=[108,105,102,101]
def Qmx (l:List Sg):Prop:=∀(j:Nat) (f:Sg),l[j]?=some f→f.2.1=4→f.2.2.1=[]∨∃(i:Nat) (g:Sg),i<j∧l[i]?=some g∧g.1=f.2.2.1∧g.2.1=4
def QhL {α:Type} {l r:List α} {i:Nat} {a:α} (h:l[i]?=some a):(l++r)[i]?=some a:=by rw[ZN (Zf.1 h).1];exact h
def Qmx.append {a b:List Sg} (ha:Qmx a) (hb:Qmx b):Qmx (a++b):=by
 intro j f hj hk;by_cases h:j<a.length
 ·rw[ZN h] at hj;rcases ha j f hj hk with h' | ⟨i,g,hi,hg,r⟩
  ·exact .inl h'
  ·exact .inr ⟨i,g,hi,QhL hg,r⟩
 ·rw[ZQ (by omega)] at hj;rcases hb _ f hj hk with h' | ⟨i,g,hi,hg,r⟩
  ·exact .inl h'
  ·exact .inr ⟨a.length+i,g,by omega,by rw[ZQ (by omega),Nat.add_sub_cancel_left];exact hg,r⟩
def Qf3 {l:List Sg} (h:∀f∈l,f.2.1≠4):Qmx l:=fun _ f hj hk=>absurd hk (h f (Zq hj))
def fokB (f:Sg):Bool:=(decide (0≤f.2.1)&&decide (f.2.1≤8))&&((!(f.2.1==5)||f.2.2.1==Qok)&&(!((f.1==nLow||f.1==QkU)||f.1==Qmv)||f.2.1==2))
def LowS (l:List Sg):Prop:=(∃f∈l,f.1=nLow)→∃f∈l,f.1=QkU
structure Qd8 (l:List Sg):Prop where
 days:Qmx l
 fok:∀f∈l,fokB f=true
 low:LowS l
def Qd8.append {a b:List Sg} (ha:Qd8 a) (hb:Qd8 b):Qd8 (a++b) where
 days:=ha.days.append hb.days
 fok f hf:=(Zp.1 hf).elim (ha.fok f) (hb.fok f)
 low:=fun⟨f,hf,e⟩=>by
  rcases Zp.1 hf with hf | hf
  ·obtain⟨g,hg,e⟩:=ha.low ⟨f,hf,e⟩;exact⟨g,mem_append_left _ hg,e⟩
  ·obtain⟨g,hg,e⟩:=hb.low ⟨f,hf,e⟩;exact⟨g,mem_append_right _ hg,e⟩
def Qjq:Qd8 []:=⟨Qf3 (by simp),by simp,fun⟨_,h,_⟩=>by cases h⟩
def Qg2 {f:Sg} (h4:f.2.1≠4) (hf:fokB f=true) (hl:f.1≠nLow):Qd8 [f]:=by
 refine⟨Qf3 fun g hg=>?_,fun g hg=>?_,fun⟨g,hg,e⟩=>?_⟩<;>rw[Ze] at hg<;>subst hg
 ·exact h4
 ·exact hf
 ·exact absurd e hl
def QuS:(Qbc.all fun p=>p.all fokB)=true:=by decide+kernel
def QlW:∀p∈Qbc,Qd8 p:=by
 intro p hp;refine⟨?_,Zt.1 (Zt.1 QuS p hp),?_⟩
 ·simp only[Qbc,Zm,Zv,ZE] at hp;rcases hp with rfl | rfl | rfl | rfl | rfl | rfl
  ·exact Qf3 (by simp)
  ·exact Qf3 (by decide)
  ·exact Qf3 (by decide)
  ·intro j f hj _
   match j,hj with
   | 0,hj=>cases hj;exact .inl rfl
   | 1,hj=>cases hj;exact .inr ⟨0,QuR,by decide,rfl,rfl,rfl⟩
  ·exact Qf3 (by decide)
  ·exact Qf3 (by decide)
 ·have key:(Qbc.all fun p=>!(p.any fun f=>f.1==nLow)||(p.any fun f=>f.1==QkU))=true:=by decide+kernel
  have:=Zt.1 key p hp;rintro ⟨f,hf,e⟩;have h1:(p.any fun f=>f.1==nLow)=true:=Yj.2 ⟨f,hf,by simpa using e⟩;rw[h1] at this;obtain⟨g,hg,e⟩:=Yj.1 (show (p.any fun f=>f.1==QkU)=true by simpa using this);exact⟨g,hg,by simpa using e⟩
def Qd3.piece {T:List Ks} {q:Ks} {T':List Ks} (h:Qd3 T q T'):Qd8 q.2:=by
 obtain⟨F,by',p1,p2,hp,hb,h1,h2,e⟩:=h;rw[e];have o1:Qd8 [sId]:=Qg2 (by decide) (by decide) (by decide);refine ((Qd8.append ?_ ?_).append (QlW p1 h1)).append (h2.elim (fun h=>h▸Qjq) fun h=>QlW p2 h.1)
 ·rcases hp with⟨_,rfl,_⟩ | ⟨to,t,cp,pt,_,rfl,hc,hp⟩
  ·exact o1
  ·refine o1.append (b:=sOf t.1::(cp++pt)) ((Qg2 (f:=sOf t.1) (show (1:Int)≠4 by decide) rfl (show nOf≠nLow by decide)).append (b:=cp++pt) (Qd8.append ?_ ?_))
   ·rcases hc with rfl | ⟨g,_,_,rfl⟩
    ·exact Qjq
    ·exact Qg2 (show (8:Int)≠4 by decide) rfl (show ([115,97,109,101]:Str)≠nLow by decide)
   ·rcases hp with⟨rfl,_⟩ | ⟨_,rfl,_⟩
    ·exact Qjq
    ·exact Qg2 (by decide) (by decide) (by decide)
 ·rcases hb with rfl | ⟨_,t,_,rfl⟩
  ·exact Qjq
  ·exact Qg2 (show (1:Int)≠4 by decide) rfl (show ([98,121]:Str)≠nLow by decide)
def Right (h:Sg):Prop:=h.2.1≠0∧h.2.1≠1∧h.2.1≠6∧h.2.1≠7
structure FInv (T:List Ks) (k:Nat) (q:Ks):Prop where
 piece:Qd8 q.2
 k7:∀f∈q.2,f.2.1=7→f=Qhm∧∃(to:Nat) (t:Ks),to<k∧T[to]?=some t∧q.2[1]?=some (sOf t.1)∧Qhn q.1∈t.2
 k8:∀f∈q.2,f.2.1=8→∃(n:Str) (to:Nat) (t:Ks),f=Qiu n∧to<k∧T[to]?=some t∧q.2[1]?=some (sOf t.1)∧∃h∈t.2,h.1=n∧Right h
 k6:∀f∈q.2,f.2.1=6→∃(o:Nat) (p:Ks),f=Qhn p.1∧k<o∧T[o]?=some p∧Qhm∈p.2∧p.2[1]?=some (sOf q.1)
def Ext (T U:List Ks):Prop:=∀(i:Nat) (t:Ks),T[i]?=some t→∃r,U[i]?=some (t.1,t.2++r)
def FInv.ext {T U:List Ks} {k:Nat} {q:Ks} (e:Ext T U) (h:FInv T k q):FInv U k q where
 piece:=h.piece
 k7 f hf hk:=by obtain⟨e1,to,t,h1,h2,h3,h4⟩:=h.k7 f hf hk;obtain⟨r,hr⟩:=e to t h2;exact⟨e1,to,_,h1,hr,h3,mem_append_left _ h4⟩
 k8 f hf hk:=by obtain⟨n,to,t,e1,h1,h2,h3,g,h4,h5⟩:=h.k8 f hf hk;obtain⟨r,hr⟩:=e to t h2;exact⟨n,to,_,e1,h1,hr,h3,g,mem_append_left _ h4,h5⟩
 k6 f hf hk:=by obtain⟨o,p,e1,h1,h2,h3,h4⟩:=h.k6 f hf hk;obtain⟨r,hr⟩:=e o p h2;exact⟨o,(p.1,p.2++r),e1,h1,hr,mem_append_left _ h3,QhL h4⟩
def FInv.total {U:List Ks} {k o:Nat} {t p:Ks} (h:FInv U k t) (h1:k<o) (h2:U[o]?=some p) (h3:Qhm∈p.2) (h4:p.2[1]?=some (sOf t.1)):FInv U k (t.1,t.2++[Qhn p.1]) where
 piece:=h.piece.append (Qg2 (show (6:Int)≠4 by decide) rfl (show QgB≠nLow by decide))
 k7 f hf hk:=by
  rcases Zp.1 hf with hf | hf
  ·obtain⟨e1,to,t',g1,g2,g3,g4⟩:=h.k7 f hf hk;exact⟨e1,to,t',g1,g2,QhL g3,g4⟩
  ·rw[Ze] at hf;subst hf;exact absurd (show (6:Int)=7 from hk) (by decide)
 k8 f hf hk:=by
  rcases Zp.1 hf with hf | hf
  ·obtain⟨n,to,t',e1,g1,g2,g3,g⟩:=h.k8 f hf hk;exact⟨n,to,t',e1,g1,g2,QhL g3,g⟩
  ·rw[Ze] at hf;subst hf;exact absurd (show (6:Int)=8 from hk) (by decide)
 k6 f hf hk:=by
  rcases Zp.1 hf with hf | hf
  ·exact h.k6 f hf hk
  ·rw[Ze] at hf;exact⟨o,p,hf,h1,h2,h3,h4⟩
def Ext.self (T:List Ks):Ext T T:=fun _ t h=>⟨[],by rw[Yh];exact h⟩
def Ext.app {T U:List Ks} (r:List Ks) (h:Ext T U):Ext T (U++r):=fun i t e=>by obtain⟨s,hs⟩:=h i t e;exact⟨s,QhL hs⟩
def Ext.set {T:List Ks} {i:Nat} {t:Ks} (s:List Sg) (h:T[i]?=some t):Ext T (T.set i (t.1,t.2++s)):=fun j u e=>by
 rw[getElem?_set];split
 ·rename_i ej;subst ej;rw[Zc (Zf.1 h).1];rw[h] at e;cases e;exact⟨s,rfl⟩
 ·exact⟨[],by rw[Yh];exact e⟩
def Qd3.ext {T:List Ks} {q:Ks} {T':List Ks} (h:Qd3 T q T'):Ext T T':=by
 obtain⟨F,by',p1,p2,hp,_⟩:=h;rcases hp with⟨_,_,rfl⟩ | ⟨to,t,cp,pt,ht,_,_,hp⟩
 ·exact Ext.self _
 ·rcases hp with⟨_,rfl⟩ | ⟨_,_,rfl⟩
  ·exact Ext.self _
  ·exact Ext.set _ ht
def Qd3.old {T:List Ks} {q:Ks} {T':List Ks} (h:Qd3 T q T') {i:Nat} {u:Ks} (e:T'[i]?=some u):T[i]?=some u∨∃t,T[i]?=some t∧u=(t.1,t.2++[Qhn q.1])∧Qhm∈q.2∧q.2[1]?=some (sOf t.1):=by
 obtain⟨F,by',p1,p2,hp,_,_,_,eq⟩:=h;rcases hp with⟨_,_,rfl⟩ | ⟨to,t,cp,pt,ht,rfl,_,hp⟩
 ·exact .inl e
 ·rcases hp with⟨_,rfl⟩ | ⟨_,rfl,rfl⟩
  ·exact .inl e
  ·rw[getElem?_set] at e;split at e
   ·rename_i ei;subst ei;rw[Zc (Zf.1 ht).1] at e;cases e;refine .inr ⟨t,ht,rfl,?_,?_⟩
    ·rw[eq];simp
    ·rw[eq];rfl
   ·exact .inl e
def QbM.inv {T:List Ks} (h:QbM T):∀(k:Nat) (q:Ks),T[k]?=some q→FInv T k q:=by
 induction h with
 | nil=>intro k q h;simp at h
 | @snoc T q T' h hl hn hk ih=>
  intro k z hz;have el:T'.length=T.length:=by simpa using ZF length hk.names
  have e1:Ext T (T'++[q]):=hk.ext.app [q];have hq:(T'++[q])[T'.length]?=some q:=by simp
  by_cases hi:k<T'.length
  ·rw[ZN hi] at hz;rcases hk.old hz with h0 | ⟨t,h0,rfl,h1,h2⟩
   ·exact (ih k z h0).ext e1
   ·exact ((ih k t h0).ext e1).total hi hq h1 h2
  ·rw[ZQ (by omega)] at hz;have e0:k - T'.length=0:=by
    cases hd:k - T'.length with
    | zero=>rfl
    | succ n=>rw[hd] at hz;simp at hz
   rw[e0] at hz;cases hz;have hkk:k=T.length:=by omega
   refine⟨hk.piece,fun f hf hf7=>?_,fun f hf hf8=>?_,fun f hf hf6=>absurd hf6 (hk.links f hf).1⟩
   ·obtain⟨to,t,ht,h1,h2⟩:=(hk.links f hf).2 (.inl hf7);have hto:=(Zf.1 ht).1;rcases h2 with⟨rfl,h2⟩ | ⟨g,_,_,rfl⟩
    ·exact⟨rfl,to,_,by omega,QhL h2,h1,mem_append_right _ (mem_singleton_self _)⟩
    ·exact absurd (show (8:Int)=7 from hf7) (by decide)
   ·obtain⟨to,t,ht,h1,h2⟩:=(hk.links f hf).2 (.inr hf8);have hto:=(Zf.1 ht).1;rcases h2 with⟨rfl,h2⟩ | ⟨g,hg,hr,rfl⟩
    ·exact absurd hf8 (by decide)
    ·obtain⟨r,hr'⟩:=e1 to t ht;exact⟨g.1,to,_,rfl,by omega,hr',h1,g,mem_append_left _ hg,rfl,hr⟩
def QzH {x:List Int} (h:x.length≤6):(padV x).L.take x.length=x:=by refine ext_getElem (by simp[Qw.L];omega) fun i h1 h2=>?_;rw[getElem_take];have e:=QtC (p:=x) (i:=(i:Int)) (by omega) (by omega);unfold nth at e;rw[Zr,getD_lt' (by simp[Qw.L];omega),getD_lt' h2] at e;exact e
section
variable {L:List Qe} {W:List Int} (hv:∀y∈L,VL y (W.length:Int)∧y.B<y.A)
include hv
theorem QzI {o:List Int} (ho:o.length=W.length) (hn:NumP o) (hk:∀y∈L,QeB y o=true):∀i,i<o.length→Qj1 L o i:=(QpI (fun y hy=>by rw[ho];exact (hv y hy).1) (fun y hy=>(hv y hy).2)).2 ⟨hn,hk⟩
theorem Qr5 {o:List Int} (ho:o.length=W.length) (hn:NumP o) (hk:∀y∈L,QeB y o=true):∃x∈QaH L W (QcT L W.length) W.length [],dst W x≤dst W o:=by refine QpH (fun y hy h0=>?_) ho W.length [] (by simp) (fun j hj=>by simp at hj) (by simp) (fun i _ hi=>QzI hv ho hn hk i (by omega));unfold QcT;exact Qn7 L _ (fun z hz=>by have:=(hv z hz).1.b1;rw[Yl];omega) y hy h0
theorem QxA (h:(Qdg L W (QcT L W.length)).2<0) {o:List Int} (ho:o.length=W.length) (hn:NumP o):¬∀y∈L,QeB y o=true:=by intro hk;obtain⟨x,hx,_⟩:=Qr5 hv ho hn hk;rw[Qxi.1 h] at hx;cases hx
theorem QxB (h6:W.length≤6) (h:¬(Qdg L W (QcT L W.length)).2<0):
  ((Qdg L W (QcT L W.length)).1.L.take W.length).length=W.length∧NumP ((Qdg L W (QcT L W.length)).1.L.take W.length)∧(∀y∈L,QeB y ((Qdg L W (QcT L W.length)).1.L.take W.length)=true)∧
  ∀o:List Int,o.length=W.length→NumP o→(∀y∈L,QeB y o=true)→dst W ((Qdg L W (QcT L W.length)).1.L.take W.length)≤dst W o:=by
 obtain⟨x,hx,he,hm⟩:=Qxj (L:=L) (W:=W) (D:=QcT L W.length) (by omega);obtain⟨h1,_,h3⟩:=QtE W.length [] (by simp) x hx;rw[he];have e:(padV x).L.take W.length=x:=by rw[←h1];exact QzH (by omega)
 dsimp only;rw[e];have hk:=(QpI (L:=L) (x:=x) (fun y hy=>by rw[h1];exact (hv y hy).1) (fun y hy=>(hv y hy).2)).1 (fun i hi=>h3 i (Nat.zero_le _) (by omega));refine⟨h1,hk.1,hk.2,fun o ho hn hko=>?_⟩;obtain⟨z,hz,hd⟩:=Qr5 hv ho hn hko;exact Int.le_trans (hm z hz) hd
end
structure CleanS (x:Qa):Prop where
 short:Qfh x
 clean:QY x=[]
 few:x.Kinds.length≤3
 narrow:∀k∈x.Kinds,k.Hi - k.Lo≤29
def QmO {α:Type} {s:List α} {f:α→Str} (hn:(s.map f).Nodup) {k:Nat} {a:α} (h:s[k]?=some a):QaF s (fun b=>f b==f a)=(k:Int):=by
 unfold QaF;obtain⟨hk,e⟩:=Zf.1 h;have:s.findIdx? (fun b=>f b==f a)=some k:=by rw[ZP];refine⟨hk,by rw[e];simp,fun j hj=>?_⟩;have:=pairwise_iff_getElem.1 hn j k (by simp;omega) (by simpa using hk) hj;rw[getElem_map,getElem_map,e] at this;simpa using this
 rw[this]
section
variable {x:Qa}
theorem Qer (hC:QbM (x.Kinds.map ks)) {k:Nat} {t:Ks} (h:(x.Kinds.map ks)[k]?=some t):∃q,x.Kinds[k]?=some q∧ks q=t∧Q9 x t.1=(k:Int):=by
 rw[ZJ] at h;obtain⟨q,hq,rfl⟩:=Yr.1 h;have e:(x.Kinds.map ks).map Prod.fst=x.Kinds.map Qg.Name:=by rw[Yw];rfl
 have hn:(x.Kinds.map Qg.Name).Nodup:=by rw[←e,hC.names.2];exact List.Nodup.sublist (take_sublist _ _) (by decide)
 exact⟨q,hq,rfl,QmO hn hq⟩
theorem Qc7 {q:Qg} (hn:((ks q).2.map Prod.fst).Nodup) {j:Nat} {g:Sg} (h:(ks q).2[j]?=some g):∃f,q.Fields[j]?=some f∧sg f=g∧Qai q g.1=(j:Int):=by unfold ks at h hn;dsimp only at h hn;rw[ZJ] at h;obtain⟨f,hf,rfl⟩:=Yr.1 h;rw[Yw] at hn;exact⟨f,hf,rfl,QmO (f:=Qc.Name) hn hf⟩
theorem Qg3 {k j:Nat} {q:Qg} {f:Qc} (hq:x.Kinds[k]?=some q) (hf:q.Fields[j]?=some f):field? x (k:Int) (j:Int)=some f:=QmZ (by omega) (by omega) (by rw[Qci];exact hq) (by rw[Qci];exact hf)
theorem Qi5 (_:QbM (x.Kinds.map ks)) {k:Nat} {q:Qg} (hq:x.Kinds[k]?=some q):(x.Kinds.map ks)[k]?=some (ks q):=by rw[ZJ,hq];rfl
theorem QuT (hC:QbM (x.Kinds.map ks)) {k j to:Nat} {q:Qg} {f:Qc} {t:Ks} (hq:x.Kinds[k]?=some q) (hf:q.Fields[j]?=some f) (hk:f.Kind=7∨f.Kind=8) (hu:f.Up=nOf)
  (h1:(ks q).2[1]?=some (sOf t.1)) (ht:(x.Kinds.map ks)[to]?=some t) (hto:to<k):upIx x (k:Int) (j:Int)=(to:Int):=by
 obtain⟨hn,r,hr,_⟩:=hC.fields _ (Zq (Qi5 hC hq));obtain⟨g,hg,eg,e1⟩:=Qc7 hn h1;obtain⟨qt,hqt,rfl,e2⟩:=Qer hC ht;have hs:(ks q).2[j]?=some (sg f):=by unfold ks;dsimp only;rw[ZJ,hf];rfl
 have hj:1<j:=by
  rcases Nat.lt_or_ge 1 j with h | h
  ·exact h
  ·have:j=0∨j=1:=by omega
   rcases this with rfl | rfl
   ·rw[hr] at hs;have e0:sId=sg f:=Zs hs;have:sId.2.1=f.Kind:=by rw[e0];rfl
    have h0:sId.2.1=0:=rfl;omega
   ·rw[h1] at hs;have e0:sOf (ks qt).1=sg f:=Zs hs;have:(sOf (ks qt).1).2.1=f.Kind:=by rw[e0];rfl
    have h0:(sOf (ks qt).1).2.1=1:=rfl;omega
 have gk:g.Kind=1:=ZF (fun s:Sg=>s.2.1) eg;have go:g.Of=(ks qt).1:=ZF (fun s:Sg=>s.2.2.1) eg;have e1':Qai q nOf=1:=e1;unfold upIx;rw[Qg3 hq hf];dsimp only;rw[Zc hk,Qci,hq];dsimp only;have hg1:field? x (k:Int) 1=some g:=Qg3 (j:=1) hq hg;rw[hu,e1',Zc (by omega),hg1];dsimp only;rw[Zc gk];unfold QgF;rw[go,e2,Zc (by omega)]
theorem QxC {k j to i:Nat} {qt:Qg} {f g:Qc} (hu:upIx x (k:Int) (j:Int)=(to:Int)) (hqt:x.Kinds[to]?=some qt) (hg:qt.Fields[i]?=some g) (hi:Qai qt f.Of=(i:Int)):topS x (k:Int) (j:Int) f=(g,true):=by unfold topS;rw[hu,Zd (by omega),Qci,hqt];dsimp only;rw[hi,Qg3 hqt hg]
theorem Qr6 (p:Nat→Bool) (a:Nat):∀n,a<n→p a=true→(∀i,i<n→p i=true→i=a)→((range n).filter p).length=1
 | 0,h,_,_=>by omega
 | n+1,h,ha,hu=>by
  rw[Yf,filter_append,Zi];by_cases e:a=n
  ·subst e;have h0:(range a).filter p=[]:=by
    rw[filter_eq_nil_iff];intro i hi hp;have hi':=ZH.1 hi;have:=hu i (by omega) hp;omega
   rw[h0];simp[ha]
  ·have h1:=Qr6 p a n (by omega) ha fun i hi hp=>hu i (by omega) hp;have h2:p n=false:=by
    cases hp:p n with
    | false=>rfl
    | true=>exact absurd (hu n (by omega) hp).symm e
   rw[h1];simp[h2]
theorem fst0 {a:Bool} {c:Int} {r:List Q6} (ha:a=false) (hr:QaZ r=0):QaZ (⟨a,c⟩::r)=0:=by subst ha;exact hr
theorem QCp (hC:QbM (x.Kinds.map ks)) {k:Nat} {q:Qg} (hq:x.Kinds[k]?=some q) {i j:Nat} {f g:Qc} (hi:q.Fields[i]?=some f) (hj:q.Fields[j]?=some g) (e:f.Name=g.Name):i=j:=by
 obtain⟨hn,_⟩:=hC.fields _ (Zq (Qi5 hC hq));have s1:(ks q).2[i]?=some (sg f):=by unfold ks;dsimp only;rw[ZJ,hi];rfl
 have s2:(ks q).2[j]?=some (sg g):=by unfold ks;dsimp only;rw[ZJ,hj];rfl
 obtain⟨_,_,_,e1⟩:=Qc7 hn s1;obtain⟨_,_,_,e2⟩:=Qc7 hn s2;have:Qai q (sg f).1=Qai q (sg g).1:=ZF _ e;omega
theorem QuU (hC:QbM (x.Kinds.map ks)) (hL:∃L,x.Lives=[L]∧L.Name=Qok) {k j:Nat} {q:Qg} {f:Qc} (hq:x.Kinds[k]?=some q) (hf:q.Fields[j]?=some f):Qhi x q (k:Int) (j:Int) f=0:=by
 have hsg:=Qi5 hC hq;obtain⟨hn,hd⟩:=hC.fields _ (Zq hsg);have inv:=hC.inv k _ hsg;have hs:(ks q).2[j]?=some (sg f):=by unfold ks;dsimp only;rw[ZJ,hf];rfl
 have hm:=Zq hs;have fk:(sg f).2.1=f.Kind:=rfl;unfold Qhi;by_cases c0:f.Kind=0
 ·rw[Zc c0];refine fst0 ?_ rfl;obtain⟨r,hr,hr0⟩:=hd
  match j,hs with
  | 0,_=>rfl
  | j+1,hs=>rw[hr,getElem?_cons_succ] at hs;exact absurd c0 (hr0 _ (Zq hs))
 rw[Zd c0];by_cases c1:f.Kind=1
 ·rw[Zc c1];refine fst0 ?_ rfl;obtain⟨t,ht,et⟩:=hC.refs k _ hsg (sg f) hm c1;have hkl:=(Zf.1 hsg).1;have htl:t<(x.Kinds.map ks).length:=by omega
  have ht2:=Zb htl;have e3:=hC.name_at ht2;rw[et] at e3;obtain⟨_,_,_,e2⟩:=Qer hC ht2;rw[←Zs e3] at e2;have e4:Q9 x f.Of=(t:Int):=e2;have eu:upIx x (k:Int) (j:Int)=(t:Int):=by unfold upIx;rw[Qg3 hq hf];dsimp only;rw[Zd (by omega),Zc c1];unfold QgF;rw[e4,Zc (by omega)]
  rw[eu];simp
 rw[Zd c1];by_cases c4:f.Kind=4
 ·rw[Zc c4];refine fst0 ?_ rfl;rcases inv.piece.days j _ hs c4 with h | ⟨i,g,hi,hg,e1,e2⟩
  ·have h':f.Of=[]:=h;rw[h'];rfl
  ·obtain⟨g',hg',rfl,e3⟩:=Qc7 hn hg;have e4:Qai q f.Of=(i:Int):=by
    have:(sg f).2.2.1=f.Of:=rfl;rw[←this,←e1];exact e3
   have gk:g'.Kind=4:=e2;rw[e4,Qg3 hq hg'];dsimp only;rw[gk];rw[show decide ((i:Int)<0)=false by simp,show decide ((i:Int)≥(j:Int))=false by simp;omega];simp
 rw[Zd c4];by_cases c5:f.Kind=5
 ·rw[Zc c5];refine fst0 ?_ rfl;obtain⟨L,hL,hLn⟩:=hL;have h:=inv.piece.fok _ hm;unfold fokB at h;simp only[Zg] at h;have h2:=h.2.1;rw[fk,c5] at h2;have h3:f.Of=Qok:=by simpa[sg] using h2
  rw[hL,h3];simp[hLn]
 rw[Zd c5];by_cases c6:f.Kind=6
 ·rw[Zc c6];obtain⟨o,p,ef,ho,hp,hpart,h1⟩:=inv.k6 _ hm c6;obtain⟨qo,hqo,rfl,eo⟩:=Qer hC hp;have efo:f.Of=(ks qo).1:=ZF (fun s:Sg=>s.2.2.1) ef;have efn:f.Name=QgB:=ZF (fun s:Sg=>s.1) ef;have es:Qmj x (k:Int) f=((o:Int),shl x (o:Int) (k:Int) f.Name):=by
   unfold Qmj;rw[efo,eo,Zd (by omega)]
  have hno:=(hC.fields _ (Zq hp)).1;obtain⟨jp,hjp⟩:=Yd.1 hpart;obtain⟨g,hg,eg,_⟩:=Qc7 hno hjp;have gk:g.Kind=7:=ZF (fun s:Sg=>s.2.1) eg;have go:g.Of=QgB:=ZF (fun s:Sg=>s.2.2.1) eg;have gu:g.Up=nOf:=ZF (fun s:Sg=>s.2.2.2) eg;have gn:g.Name=Qhm.1:=ZF (fun s:Sg=>s.1) eg;have hl:(shl x (o:Int) (k:Int) f.Name).length=1:=by
   unfold shl;rw[Qci,hqo];dsimp only;rw[ZT];refine Qr6 _ jp _ (Zf.1 hg).1 ?_ fun i hi hsh=>?_
   ·unfold QiT;rw[hg];dsimp only;rw[gk,go,efn,QuT hC hqo hg (.inl gk) gu h1 hsg ho];simp
   ·unfold QiT at hsh;rw[Zb hi] at hsh;simp only[Zg,Ye] at hsh;have hi':=Zb hi;have hs2:(ks qo).2[i]?=some (sg qo.Fields[i]):=by unfold ks;dsimp only;rw[ZJ,hi'];rfl
    obtain⟨e7,_⟩:=(hC.inv o _ hp).k7 _ (Zq hs2) hsh.1.1;refine QCp hC hqo hi' hg ?_;rw[gn];exact ZF (fun s:Sg=>s.1) e7
  rw[es];refine fst0 (by simp) (fst0 ?_ rfl);dsimp only;rw[hl];rfl
 rw[Zd c6];by_cases c7:f.Kind=7
 ·rw[Zc c7];obtain⟨ef,to,t,hto,ht,h1,hT⟩:=inv.k7 _ hm c7;have efo:f.Of=QgB:=ZF (fun s:Sg=>s.2.2.1) ef;have efu:f.Up=nOf:=ZF (fun s:Sg=>s.2.2.2) ef;have hu:=QuT hC hq hf (.inl c7) efu h1 ht hto;obtain⟨qt,hqt,rfl,_⟩:=Qer hC ht;have hnt:=(hC.fields _ (Zq ht)).1;obtain⟨i,hi⟩:=Yd.1 hT;obtain⟨g,hg,eg,e3⟩:=Qc7 hnt hi;have gk:g.Kind=6:=ZF (fun s:Sg=>s.2.1) eg;have go:g.Of=(ks q).1:=ZF (fun s:Sg=>s.2.2.1) eg;have ht:=QxC (f:=f) hu hqt hg (by rw[efo];exact e3);obtain⟨_,_,_,ek⟩:=Qer hC hsg;rw[ht,hu];refine fst0 (by simp) (fst0 ?_ rfl);dsimp only;rw[gk,go,ek];simp
 rw[Zd c7];by_cases c8:f.Kind=8
 ·rw[Zc c8];obtain⟨n,to,t,ef,hto,ht,h1,h,hh,hn8,hr⟩:=inv.k8 _ hm c8;have efo:f.Of=n:=ZF (fun s:Sg=>s.2.2.1) ef;have efu:f.Up=nOf:=ZF (fun s:Sg=>s.2.2.2) ef;have hu:=QuT hC hq hf (.inr c8) efu h1 ht hto;have invt:=hC.inv to _ ht;obtain⟨qt,hqt,rfl,_⟩:=Qer hC ht;have hnt:=(hC.fields _ (Zq ht)).1;obtain⟨i,hi⟩:=Yd.1 hh;obtain⟨g,hg,eg,e3⟩:=Qc7 hnt hi;have ht:=QxC (f:=f) hu hqt hg (by rw[efo,←hn8];exact e3);rw[ht,hu];refine fst0 (by simp) (fst0 ?_ rfl);have hf8:=invt.piece.fok _ hh;unfold fokB at hf8;simp only[Zg,Zj] at hf8;obtain⟨r1,r2,r3,r4⟩:=hr;have gk:g.Kind=h.2.1:=ZF (fun s:Sg=>s.2.1) eg;have:g.Kind=2∨g.Kind=3∨g.Kind=4∨g.Kind=5∨g.Kind=8:=by omega
  unfold QwQ;rcases this with e | e | e | e | e<;>rw[e]<;>rfl
 rw[Zd c8]
theorem Qho (hC:QbM (x.Kinds.map ks)) {k:Nat} {q:Qg} (hq:x.Kinds[k]?=some q) {n:Str} (h:∃g∈(ks q).2,g.1=n) (hn:(n=nLow∨n=QkU)∨n=Qmv):Qfg x (k:Int) n=false∧Qe0 x (k:Int) n=false:=by
 have hsg:=Qi5 hC hq;obtain⟨hnd,_⟩:=hC.fields _ (Zq hsg);obtain⟨g,hg,rfl⟩:=h;have hf:=(hC.inv k _ hsg).piece.fok _ hg;obtain⟨i,hi⟩:=Yd.1 hg;obtain⟨f,hf',eg,e3⟩:=Qc7 hnd hi;have e:QiX x (k:Int) g.1=(f,true):=by unfold QiX;rw[Qci,hq];dsimp only;rw[e3,Qg3 hq hf']
 have fk:f.Kind=2:=by
  have gk:f.Kind=g.2.1:=ZF (fun s:Sg=>s.2.1) eg;unfold fokB at hf;simp only[Zg] at hf;have h2:=hf.2.2;have h3:((g.1==nLow||g.1==QkU)||g.1==Qmv)=true:=by simpa[or_assoc] using hn
  rw[h3] at h2;rw[gk];simpa using h2
 unfold Qfg Qe0;rw[e];dsimp only;rw[fk];simp
theorem Qr7 (k:Int):Qfg x k []=false∧Qe0 x k []=false:=⟨rfl,rfl⟩
theorem QuV (hC:QbM (x.Kinds.map ks)) {n:Int} (hR:QgC x.Kinds n x.Rules) {i:Nat} {r:Qo} (hr:x.Rules[i]?=some r):Qii x i r=0:=by
 obtain⟨ps,e1,e2,e3⟩:=hR;have nm:∀(j:Nat) (s:Qo),x.Rules[j]?=some s→∃kk,(ps.map Prod.fst)[j]?=some kk∧∃q,x.Kinds[kk]?=some q∧QkV (ks q) s:=fun j s hs=>by rw[←e1,ZJ] at hs;obtain⟨p,hp,rfl⟩:=Yr.1 hs;obtain⟨_,q,hq,h⟩:=e3 p (Zq hp);exact⟨p.1,by rw[ZJ,hp];rfl,q,hq,h⟩
 obtain⟨kk,hkk,q,hq,hrule⟩:=nm i r hr;obtain⟨hrk,⟨pr,hpr⟩,hcase⟩:=hrule;have hsg:=Qi5 hC hq;obtain⟨_,_,_,ek⟩:=Qer hC hsg;have ek':Q9 x r.Kind=(kk:Int):=by rw[hrk];exact ek
 have hlow:=(hC.inv kk _ hsg).piece.low;have h2:(Qfg x (kk:Int) r.A=false∧Qe0 x (kk:Int) r.A=false)∧(Qfg x (kk:Int) r.B=false∧Qe0 x (kk:Int) r.B=false)∧(r.A==r.B)=false:=by
  rcases hcase with⟨ea,eb,hg⟩ | ⟨hg,⟨ea,eb⟩ | ⟨ea,eb⟩⟩
  ·rw[ea,eb];exact⟨Qho hC hq hg (.inl (.inl rfl)),Qho hC hq (hlow hg) (.inl (.inr rfl)),by decide⟩
  ·rw[ea,eb];exact⟨Qho hC hq hg (.inr rfl),Qr7 _,by decide⟩
  ·rw[ea,eb];exact⟨Qr7 _,Qho hC hq hg (.inr rfl),by decide⟩
 obtain⟨⟨a1,a2⟩,⟨b1,b2⟩,ab⟩:=h2;unfold Qii;rw[ek',a1,a2,b1,b2,ab];refine fst0 ?_ (fst0 (by simp) (fst0 rfl (fst0 rfl rfl)));rw[any_eq_false];intro s hs;obtain⟨j,hj⟩:=Yd.1 hs;rw[getElem?_take] at hj;split at hj
 ·rename_i hji;obtain⟨k2,hk2,q2,hq2,_,⟨ps2,hps2⟩,_⟩:=nm j s hj;obtain⟨l1,g1⟩:=Zf.1 hk2;obtain⟨l2,g2⟩:=Zf.1 hkk;have hlt:=pairwise_iff_getElem.1 e2 j i l1 l2 hji;rw[g1,g2] at hlt;have n1:=hC.name_at hsg;have n2:=hC.name_at (Qi5 hC hq2);have hl:(x.Kinds.map ks).length≤3:=hC.names.1;have hk3:=(Zf.1 hsg).1;intro e;have e':s.Name=r.Name:=by simpa using e
  rw[hps2,hpr] at e';have key:∀a b:Nat,a<b→b<3→∀u v:Str,Qh4[a]?=some u→Qh4[b]?=some v→(u.take 1).length=(v.take 1).length∧u.take 1≠v.take 1:=by
   intro a b hab hb u v hu hv;have:(a=0∧b=1)∨(a=0∧b=2)∨(a=1∧b=2):=by omega
   rcases this with⟨rfl,rfl⟩ | ⟨rfl,rfl⟩ | ⟨rfl,rfl⟩<;>cases hu<;>cases hv<;>decide
  obtain⟨m1,m2⟩:=key k2 kk hlt (by omega) _ _ n2 n1;exact m2 (append_inj' e' m1).2
 ·cases hj
theorem Qjr {k j r e:Int} (h:e=0):prob k j r e=[]:=Zc h
theorem QsE (hC:QbM (x.Kinds.map ks)) (hL:∃L,x.Lives=[L]∧L.Name=Qok) {n:Int} (hR:QgC x.Kinds n x.Rules) (hv:Qgw x=0):QY x=[]:=by
 unfold QY;rw[Zc hv];have h1:Qgy x=[]:=by
  obtain⟨L,hL,_⟩:=hL;unfold Qgy;rw[flatMap_eq_nil_iff];intro i hi;have hi':=ZH.1 hi;rw[hL] at hi';have:i=0:=by simpa using hi'
  subst this;unfold Qij;rw[hL];exact Qjr rfl
 have h2:QhX x=[]:=by
  unfold QhX;rw[flatMap_eq_nil_iff];intro i hi;unfold Qhj
  cases hq:x.Kinds[i]? with
  | none=>rfl
  | some q=>
   dsimp only;have hsg:=Qi5 hC hq;obtain⟨hn,r,hr,_⟩:=hC.fields _ (Zq hsg);obtain⟨_,_,_,ek⟩:=Qer hC hsg;rw[Qjr,Yg]
   ·unfold QjT;rw[flatMap_eq_nil_iff];intro j hj;unfold Qgx
    cases hf:q.Fields[j]? with
    | none=>rfl
    | some f=>
     refine Qjr ?_;unfold QiZ;have hs:(ks q).2[j]?=some (sg f):=by unfold ks;dsimp only;rw[ZJ,hf];rfl
     obtain⟨_,_,_,e1⟩:=Qc7 hn hs;have e2:Qai q f.Name=(j:Int):=e1;rw[e2,Zd (by omega)];exact QuU hC hL hq hf
   ·unfold Qji;have ek':Q9 x q.Name=(i:Int):=ek;refine fst0 (by rw[ek'];simp) (fst0 ?_ rfl);unfold ks at hr;dsimp only at hr
    cases hq2:q.Fields with
    | nil=>rw[hq2] at hr;cases hr
    | cons f fs=>rw[hq2,Yi] at hr;have e0:sg f=sId:=(List.cons.inj hr).1;have:f.Kind=0:=ZF (fun s:Sg=>s.2.1) e0;simp[this];omega
 have h3:Qrq x=[]:=by
  unfold Qrq;rw[flatMap_eq_nil_iff];intro i hi;unfold Qjj
  cases hr:x.Rules[i]? with
  | none=>rfl
  | some r=>exact Qjr (QuV hC hR hr)
 rw[h1,h2,h3];rfl
end
structure GenS (x:Qa):Prop where
 sz:Sz x
 tiny:Tiny x
 valid:Qfr x=true
 chain:QbM (x.Kinds.map ks)
 narrow:∀k∈x.Kinds,k.Hi - k.Lo≤29
 pos:1≤x.Kinds.length
 life:∃L,x.Lives=[L]∧L.Name=Qok
 rules:∃n,QgC x.Kinds n x.Rules
def GenS.clean {x:Qa} (h:GenS x):CleanS x:=by obtain⟨n,hR⟩:=h.rules;exact⟨h.sz.short,QsE h.chain h.life hR (QuQ h.tiny h.valid),h.tiny.kinds,h.narrow⟩
def QuW {l:List Int} (hl:∀x∈l,I64 x):Ok (QbW l) GenS:=by refine (Ok.and (QwA hl) (Ok.and (QzF hl) (QzG hl))).weak fun x hx=>?_;obtain⟨h1,⟨h2,h3,h4⟩,⟨h5,h6,h9⟩,h7,h8⟩:=hx;exact⟨h1.sz (by decide),h2,h3,h5,h6,h9,h7,h8⟩
structure FR (B:Int) (f g:Qc):Prop where
 name:g.Name=f.Name
 of:g.Of=f.Of
 up:g.Up=f.Up
 kind:g.Kind=f.Kind
 words:g.Words=f.Words
 weights:g.Weights=f.Weights
 ref:f.Kind=1→0≤g.Lo∧g.Lo≤g.Hi∧g.Hi≤B
 num:f.Kind=2∨f.Kind=4→-1048576≤g.Lo∧g.Lo≤g.Hi∧g.Hi≤1048576
 same:f.Kind≠1→f.Kind≠2→f.Kind≠4→g=f
def FsR (B:Int) (a b:List Qc):Prop:=b.length=a.length∧∀(j:Nat) (f:Qc),a[j]?=some f→∃g,b[j]?=some g∧FR B f g
structure KR (B:Int) (k q:Qg):Prop where
 name:q.Name=k.Name
 span:0≤q.Lo∧q.Lo≤q.Hi∧q.Hi≤B
 fields:FsR B k.Fields q.Fields
def KsR (B:Int) (a b:List Qg):Prop:=b.length=a.length∧∀(j:Nat) (k:Qg),a[j]?=some k→∃q,b[j]?=some q∧KR B k q
def rkey (r:Qo):Str×Str×Str×Str:=(r.Name,r.Kind,r.A,r.B)
structure NumR (B:Int) (x y:Qa):Prop where
 version:y.Version=x.Version
 lives:y.Lives=x.Lives
 kinds:KsR B x.Kinds y.Kinds
 rules:(y.Rules.map rkey).Sublist (x.Rules.map rkey)
 ns:∀r∈y.Rules,-1048576≤r.N∧r.N≤1048576
def FsR.sg {B:Int} {a b:List Qc} (h:FsR B a b):b.map sg=a.map sg:=by
 refine ext_getElem? fun j=>?_;rw[ZJ,ZJ]
 cases hf:a[j]? with
 | none=>rw[getElem?_eq_none (by rw[h.1];exact List.getElem?_eq_none_iff.1 hf)]
 | some f=>obtain⟨g,hg,hr⟩:=h.2 j f hf;rw[hg];simp only[ZY,Go.Proofs.YtlajingmjmnfgaaGreatDoor.sg,hr.name,hr.kind,hr.of,hr.up]
def KsR.ks {B:Int} {a b:List Qg} (h:KsR B a b):b.map ks=a.map ks:=by
 refine ext_getElem? fun j=>?_;rw[ZJ,ZJ]
 cases hf:a[j]? with
 | none=>rw[getElem?_eq_none (by rw[h.1];exact List.getElem?_eq_none_iff.1 hf)]
 | some k=>obtain⟨q,hq,hr⟩:=h.2 j k hf;rw[hq];simp only[ZY,Go.Proofs.YtlajingmjmnfgaaGreatDoor.ks,hr.name,hr.fields.sg]
def KsR.back {B:Int} {a b:List Qg} (h:KsR B a b) {q:Qg} (hq:q∈b):∃k∈a,KR B k q:=by
 obtain⟨j,hj,rfl⟩:=Yc hq;have hja:j<a.length:=by rw[←h.1];exact hj
 obtain⟨q,hq,hr⟩:=h.2 j a[j] (Zb hja);rw[Zb hj] at hq;obtain rfl:=Zs hq;exact⟨_,Zn hja,hr⟩
def FsR.back {B:Int} {a b:List Qc} (h:FsR B a b) {q:Qc} (hq:q∈b):∃k∈a,FR B k q:=by
 obtain⟨j,hj,rfl⟩:=Yc hq;have hja:j<a.length:=by rw[←h.1];exact hj
 obtain⟨q,hq,hr⟩:=h.2 j a[j] (Zb hja);rw[Zb hj] at hq;obtain rfl:=Zs hq;exact⟨_,Zn hja,hr⟩
def Qol {lo hi a b:Int} (h:a≤lo∧lo≤hi∧hi≤b):QfE lo hi a b=true:=by simp only[QfE,Zg,Zj];omega
def FR.fieldS {B:Int} (hB:B≤29) {f g:Qc} (h:FR B f g) (hf:fieldS f=true):fieldS g=true:=by
 by_cases h1:f.Kind=1
 ·have hs:=Qol (a:=0) (b:=65536) (by have:=h.ref h1;omega:0≤g.Lo∧g.Lo≤g.Hi∧g.Hi≤65536);have hk:g.Kind=1:=h.kind.trans h1;unfold Go.Proofs.YtlajingmjmnfgaaGreatDoor.fieldS QeC Qd0 QeD at hf ⊢;rw[hk,h.name,h.of,h.up,h.words,h.weights];rw[h1] at hf;simp at hf ⊢;exact⟨⟨hf.1.1,hf.1.2⟩,hf.2.1,hs⟩
 ·by_cases h2:f.Kind=2
  ·have hs:=Qol (h.num (.inl h2));have hk:g.Kind=2:=h.kind.trans h2;unfold Go.Proofs.YtlajingmjmnfgaaGreatDoor.fieldS QeC Qd0 QeD at hf ⊢;rw[hk,h.name,h.of,h.up,h.words,h.weights];rw[h2] at hf;simp at hf ⊢;exact⟨⟨hf.1.1,hf.1.2⟩,hs⟩
  ·by_cases h4:f.Kind=4
   ·have hs:=Qol (h.num (.inr h4));have hk:g.Kind=4:=h.kind.trans h4;unfold Go.Proofs.YtlajingmjmnfgaaGreatDoor.fieldS QeC Qd0 QeD at hf ⊢;rw[hk,h.name,h.of,h.up,h.words,h.weights];rw[h4] at hf;simp at hf ⊢;exact⟨⟨hf.1.1,hf.1.2⟩,hf.2.1,hs⟩
   ·rw[h.same h1 h2 h4];exact hf
def KR.kindS {B:Int} (hB:B≤29) {k q:Qg} (h:KR B k q) (hk:kindS k=true):kindS q=true:=by unfold Go.Proofs.YtlajingmjmnfgaaGreatDoor.kindS at hk ⊢;simp only[Zg,Zj,Zt] at hk ⊢;refine⟨⟨⟨by rw[h.name];exact hk.1.1.1,Qol (by have:=h.span;omega)⟩,by rw[h.fields.1];exact hk.1.2⟩,fun g hg=>?_⟩;obtain⟨f,hf,hr⟩:=h.fields.back hg;exact hr.fieldS hB (hk.2 f hf)
def QxD {B:Int} {x y:Qa} (h:NumR B x y) {r:Qo} (hr:r∈y.Rules):∃s∈x.Rules,rkey s=rkey r:=by have:=h.rules.subset (Ya (f:=rkey) hr);obtain⟨s,hs,e⟩:=ZC.1 this;exact⟨s,hs,e⟩
def QkV.key {q:Ks} {r s:Qo} (h:QkV q s) (e:rkey s=rkey r):QkV q r:=by simp only[rkey,Yx] at e;obtain⟨e1,e2,e3,e4⟩:=e;unfold QkV at h ⊢;rw[←e1,←e2,←e3,←e4];exact h
def NumR.rulesS {B:Int} {x y:Qa} (h:NumR B x y) {n:Int} (hR:QgC x.Kinds n x.Rules):QgC y.Kinds n y.Rules:=by
 obtain⟨ps,p1,p2,p3⟩:=hR;have hsub:=h.rules;rw[←p1,Yw] at hsub;obtain⟨qs,q1,q2⟩:=sublist_map_iff.1 hsub;have hlen:qs.length=y.Rules.length:=by have:=ZF length q2;simpa using this.symm
 refine⟨(qs.map Prod.fst).zip y.Rules,?_,?_,fun p hp=>?_⟩
 ·rw[map_snd_zip (by simp;omega)]
 ·rw[map_fst_zip (by simp;omega)];exact p2.sublist (q1.map Prod.fst)
 ·obtain⟨j,hj,rfl⟩:=Yc hp;have hj':j<qs.length:=by simp at hj;omega
  rw[getElem_zip];have hm:=q1.subset (Zn hj');obtain⟨g1,k,hk,g2⟩:=p3 _ hm;obtain⟨q,hq,hr⟩:=h.kinds.2 _ k hk;refine⟨by simpa using g1,q,by simpa using hq,?_⟩;have e0:ks q=ks k:=by unfold Go.Proofs.YtlajingmjmnfgaaGreatDoor.ks;rw[hr.name,hr.fields.sg]
  rw[e0];refine g2.key ?_;have:=ZF (fun l=>l[j]?) q2;simp only[ZJ,Zb hj',Zb (show j<y.Rules.length by omega),ZY,ZX,Function.comp] at this;exact this.symm
def NumR.genS {B:Int} (hB:B≤29) {x y:Qa} (h:NumR B x y) (hg:GenS x):GenS y:=by
 obtain⟨⟨⟨s1,s2⟩,s3,s4,s5⟩,⟨t1,t2,t3,t4,t5⟩,hv,hc,hn,hp,hl,n,hR⟩:=hg;have hrl:y.Rules.length≤x.Rules.length:=by have:=h.rules.length_le;simpa using this
 have key:∀r∈y.Rules,∃s∈x.Rules,s.Name=r.Name∧s.Kind=r.Kind∧s.A=r.A∧s.B=r.B:=fun r hr=>by obtain⟨s,hs,e⟩:=QxD h hr;simp only[rkey,Yx] at e;exact⟨s,hs,e⟩
 refine⟨⟨⟨by rw[h.kinds.1];exact s1,fun q hq=>?_⟩,by rw[h.lives];exact s3,by omega,fun r hr=>?_⟩,⟨by rw[h.kinds.1];exact t1,fun q hq g hgm=>?_,by rw[h.lives];exact t3,by rw[h.lives];exact t4,by omega⟩,?_,by rw[h.kinds.ks];exact hc,fun q hq=>?_,by rw[h.kinds.1];exact hp,by rw[h.lives];exact hl,n,h.rulesS hR⟩
 ·obtain⟨k,hk,hkr⟩:=h.kinds.back hq;obtain⟨a1,a2,a3⟩:=s2 k hk;refine⟨by rw[hkr.fields.1];exact a1,fun g hgm=>?_,by rw[hkr.name];exact a3⟩;obtain⟨f,hf,hfr⟩:=hkr.fields.back hgm;have:=a2 f hf;unfold FZ FN at this ⊢;rw[hfr.words,hfr.weights,hfr.name,hfr.of,hfr.up];exact this
 ·obtain⟨s,hs,e1,e2,e3,e4⟩:=key r hr;have:=s5 s hs;unfold RN at this ⊢;rw[←e1,←e2,←e3,←e4];exact this
 ·obtain⟨k,hk,hkr⟩:=h.kinds.back hq;obtain⟨f,hf,hfr⟩:=hkr.fields.back hgm;rw[hfr.words];exact t2 k hk f hf
 ·unfold Qfr at hv ⊢;simp only[Zg,Zj,Zt] at hv ⊢;obtain⟨⟨⟨⟨⟨⟨v1,v2⟩,v3⟩,v4⟩,v5⟩,v6⟩,v7⟩:=hv;refine⟨⟨⟨⟨⟨⟨by rw[h.version];exact v1,by rw[h.kinds.1];exact v2⟩,by rw[h.lives];exact v3⟩,by omega⟩,fun q hq=>?_⟩,by rw[h.lives];exact v6⟩,fun r hr=>?_⟩
  ·obtain⟨k,hk,hkr⟩:=h.kinds.back hq;exact hkr.kindS hB (v5 k hk)
  ·obtain⟨s,hs,e1,e2,e3,e4⟩:=key r hr;have:=v7 s hs;have hN:=h.ns r hr;unfold QcQ inW at this ⊢;simp only[Zg,Zj] at this ⊢;rw[←e1,←e2,←e3,←e4];exact⟨this.1,hN⟩
 ·obtain⟨k,hk,hkr⟩:=h.kinds.back hq;have:=hkr.span;omega
def Part {α:Type} (R:α→α→Prop) (a b:List α) (i:Nat):Prop:=b.length=a.length∧(∀(j:Nat) (f:α),a[j]?=some f→j<i→∃g,b[j]?=some g∧R f g)∧∀j:Nat,i≤j→b[j]?=a[j]?
def Part.zero {α:Type} (R:α→α→Prop) (a:List α):Part R a a 0:=⟨rfl,fun j f _ h=>by omega,fun _ _=>rfl⟩
def Part.step {α:Type} {R:α→α→Prop} {a b:List α} {i:Nat} (h:Part R a b i) {f g:α} (hf:a[i]?=some f) (hr:R f g):Part R a (b.set i g) (i+1):=by
 have hi:i<b.length:=by rw[h.1];exact (Zf.1 hf).1
 refine⟨by simpa using h.1,fun j f' hf' hj=>?_,fun j hj=>?_⟩
 ·rw[getElem?_set];by_cases e:i=j
  ·subst e;rw[hf] at hf';obtain rfl:=Zs hf';exact⟨g,by rw[Zc rfl,Zc hi],hr⟩
  ·rw[Zd e];exact h.2.1 j f' hf' (by omega)
 ·rw[getElem?_set,Zd (by omega)];exact h.2.2 j (by omega)
def Part.full {α:Type} {R:α→α→Prop} {a b:List α} {i:Nat} (h:Part R a b i) (hi:a.length≤i):b.length=a.length∧∀(j:Nat) (f:α),a[j]?=some f→∃g,b[j]?=some g∧R f g:=⟨h.1,fun j f hf=>h.2.1 j f hf (by have:=(Zf.1 hf).1;omega)⟩
def Part.at {α:Type} {R:α→α→Prop} {a b:List α} {i:Nat} (h:Part R a b i) (hi:i<b.length):∃f,a[i]?=some f∧b[i]?=some f:=by
 have hia:i<a.length:=by rw[←h.1];exact hi
 exact⟨a[i],Zb hia,by rw[h.2.2 i (Zx _),Zb hia]⟩
def RR (r s:Qo):Prop:=rkey s=rkey r∧-1048576≤s.N∧s.N≤1048576
def QzJ {x:Qa} {l:List Int} (hs:Qfh x) (hv:∀k∈x.Kinds,k.Fields.length≤1000) (hl:∀z∈l,I64 z):Ok (QfM x l) (NumR 8 x):=by
 have hkl:=hs.few.1;have hrl:=hs.rules;unfold QfM;simp only[Yg,ZS,Nat.zero_add];refine Ok.rm (by omega) ?_;refine Ok.bind (P:=fun p:Int×List Qg=>KsR 8 x.Kinds p.2) (Ok.loop (fun m s=>∃i:Nat,s.1=(i:Int)∧i+m=x.Kinds.length∧Part (KR 8) x.Kinds s.2.2 i) x.Kinds.length ⟨0,rfl,by omega,Part.zero _ _⟩ fun m s ⟨i,hi,him,hP⟩=>?_) (fun p hp=>?_)
 ·obtain⟨s1,at',L⟩:=s;dsimp only at hi hP ⊢;subst hi;refine Ok.ite (fun h=>?_) (fun h=>?_)
  ·have hiL:i<L.length:=by simpa using h
   obtain⟨k,hk1,hk2⟩:=hP.at hiL;have hkf:k.Fields.length≤1000:=hv k (Zq hk1);refine Ok.at1 hl (by decide) fun t28 a0 a1=>?_;refine Ok.idx a0 a1 fun t29 ht29 _=>?_;have h29:0≤t29∧t29≤6:=by simp only[Zm,Zv,ZE] at ht29;omega
   rw[Qci,hk2];simp only[Za];rw[QgO hiL];simp only[Za];refine Ok.at1 hl (by decide) fun t44 b0 b1=>?_;rw[Qci,getElem?_set,Zc rfl,Zc hiL];simp only[Za];rw[QgO (by simpa using hiL)];simp only[Za];rw[Qci,hk1];simp only[Za];refine Ok.rm (by omega) ?_;rw[Qci,getElem?_set,Zc rfl,Zc (by simpa using hiL)];simp only[Za];rw[w64 (n:=t29+t44) (by omega) (by omega)];refine Ok.bind (P:=fun p:Int×List Qc=>FsR 8 k.Fields p.2) (Ok.loop (fun m s=>∃j:Nat,s.1=(j:Int)∧j+m=k.Fields.length∧Part (FR 8) k.Fields s.2.2 j) k.Fields.length ⟨0,rfl,by omega,Part.zero _ _⟩ fun m s ⟨j,hj,hjm,hQ⟩=>?_) (fun p hp=>?_)
   ·obtain⟨s1,at2,F⟩:=s;dsimp only at hj hQ ⊢;subst hj;refine Ok.ite (fun h=>?_) (fun h=>?_)
    ·have hjF:j<F.length:=by simpa using h
     obtain⟨f,hf1,hf2⟩:=hQ.at hjF;rw[Qci,hf2];simp only[Za];have hstep:∀g,FR 8 f g→Ok ((setAt F (j:Int) g).bind fun t126s=>(some (Sum.inl ((i64.wrap ((j:Int)+(1:Int))),(i64.wrap (at2+(2:Int))),t126s)):Option ((Int×Int×List Qc)⊕(Int×List Qc)))) (fun o=>∃s',o=.inl s'∧∃k',k'<m∧∃j:Nat,s'.1=(j:Int)∧j+k'=k.Fields.length∧Part (FR 8) k.Fields s'.2.2 j):=fun g hg=>by rw[QgO hjF];exact Ok.mk ⟨_,rfl,m - 1,by have:=hQ.1;omega,j+1,QH (n:=k.Fields.length) (by have:=hQ.1;omega) (by omega),by have:=hQ.1;omega,hQ.step hf1 hg⟩
     by_cases h1:f.Kind=1
     ·rw[Zc (by simpa using h1)];refine Ok.bind (P:=fun g:Qc=>FR 8 f g) ?_ (fun g hg=>?_)
      ·refine Ok.at1 hl (by decide) fun a a0 a1=>Ok.at1 hl (by decide) fun b b0 b1=>Ok.mk ?_;rw[w64 (n:=a+b) (by omega) (by omega)];exact⟨rfl,rfl,rfl,rfl,rfl,rfl,fun _=>⟨by dsimp only;omega,by dsimp only;omega,by dsimp only;omega⟩,fun h=>by omega,fun h=>absurd h1 h⟩
      ·have hgk:g.Kind=1:=hg.kind.trans h1;rw[Zd (by rw[hgk];decide)];simp only[Za];exact (hstep g hg).weak fun o ⟨s',e,ho⟩=>by subst e;exact ho
     ·rw[Zd (by simpa using h1)];simp only[Za];by_cases h24:f.Kind=2∨f.Kind=4
      ·rw[Zc (by simpa using h24)];refine Ok.bind (P:=fun g:Qc=>FR 8 f g) ?_ (fun g hg=>(hstep g hg).weak fun o ⟨s',e,ho⟩=>by subst e;exact ho);refine Ok.at1 hl (by decide) fun a a0 a1=>Ok.at1 hl (by decide) fun b b0 b1=>Ok.mk ?_;rw[w64 (n:=a+b) (by omega) (by omega)];exact⟨rfl,rfl,rfl,rfl,rfl,rfl,fun h=>absurd h h1,fun _=>⟨by dsimp only;omega,by dsimp only;omega,by dsimp only;omega⟩,fun _ h2 h4=>(h24.elim h2 h4).elim⟩
      ·rw[Zd (by simpa using h24)];simp only[Za];exact (hstep f ⟨rfl,rfl,rfl,rfl,rfl,rfl,fun h=>absurd h h1,fun h=>absurd h h24,fun _ _ _=>rfl⟩).weak fun o ⟨s',e,ho⟩=>by subst e;exact ho
    ·have hjF:¬j<F.length:=by simpa using h
     exact Ok.mk (hQ.full (by have:=hQ.1;omega))
   ·refine Ok.mk ⟨m - 1,by have:=hP.1;omega,i+1,QH (n:=x.Kinds.length) (by have:=hP.1;omega) (by omega),by have:=hP.1;omega,?_⟩;dsimp only;rw[Zr,List.set_set,List.set_set];exact hP.step hk1 ⟨rfl,⟨by dsimp only;omega,by dsimp only;omega,by dsimp only;omega⟩,hp⟩
  ·have hiL:¬i<L.length:=by simpa using h
   exact Ok.mk (hP.full (by have:=hP.1;omega))
 ·refine Ok.rm (by omega) ?_;refine Ok.bind (P:=fun p:List Qo=>∃i:Nat,x.Rules.length≤i∧Part RR x.Rules p i) (Ok.loop (fun m s=>∃i:Nat,s.1=(i:Int)∧i+m=x.Rules.length∧Part RR x.Rules s.2 i) x.Rules.length ⟨0,rfl,by omega,Part.zero _ _⟩ fun m s ⟨i,hi,him,hP⟩=>?_) (fun q ⟨i,hi,hq⟩=>?_)
  ·obtain⟨s1,L⟩:=s;dsimp only at hi hP ⊢;subst hi;refine Ok.ite (fun h=>?_) (fun h=>?_)
   ·have hiL:i<L.length:=by simpa using h
    obtain⟨k,hk1,hk2⟩:=hP.at hiL;refine Ok.at1 hl (by decide) fun a a0 a1=>?_;rw[Qci,hk2];simp only[Za];rw[QgO hiL];simp only[Za];rw[w64 (n:=a - 9) (by omega) (by omega)];exact Ok.mk ⟨m - 1,by have:=hP.1;omega,i+1,QH (n:=x.Rules.length) (by have:=hP.1;omega) (by omega),by have:=hP.1;omega,hP.step hk1 ⟨rfl,by dsimp only;omega,by dsimp only;omega⟩⟩
   ·have hiL:¬i<L.length:=by simpa using h
    exact Ok.mk ⟨i,by have:=hP.1;omega,hP⟩
  ·obtain⟨q1,q2⟩:=hq.full hi;refine Ok.mk ⟨rfl,rfl,hp,?_,fun r hr=>?_⟩
   ·have:q.map rkey=x.Rules.map rkey:=by
     refine ext_getElem? fun j=>?_;rw[ZJ,ZJ]
     cases hf:x.Rules[j]? with
     | none=>rw[getElem?_eq_none (by rw[q1];exact List.getElem?_eq_none_iff.1 hf)]
     | some r=>obtain⟨g,hg,hr⟩:=q2 j r hf;rw[hg];simp only[ZY,hr.1]
    show (q.map rkey).Sublist (x.Rules.map rkey);rw[this];exact Sublist.refl _
   ·obtain⟨j,hj,rfl⟩:=Yc hr;have hjx:j<x.Rules.length:=by rw[←q1];exact hj
    obtain⟨g,hg,hr⟩:=q2 j _ (Zb hjx);rw[Zb hj] at hg;obtain rfl:=Zs hg;exact hr.2
def Qr8 {all:List Str} (hn:all.Nodup):∀{js:List Nat} {b:Nat},js.Pairwise (·< ·)→(∀j∈js,b≤j∧j<all.length)→QdZ all (js.map fun i=>all.getD i []) b=some js
 | [],_,_,_=>rfl
 | j::js,b,hp,h=>by
  obtain⟨hp1,hp2⟩:=pairwise_cons.1 hp;obtain⟨hb,hj⟩:=h j (Zk ..);rw[Yi];unfold QdZ;have hg:all.getD j []=all[j]:=by rw[Zh,Zb hj];rfl
  have hf:all.findIdx? (fun t=>all.getD j []==t)=some j:=by
   rw[ZP];refine⟨hj,by rw[hg];simp,fun i hi=>?_⟩;rw[hg];have:all[i]≠all[j]:=fun e=>by have:=Qxq hn (by omega) hj e;omega
   simpa using this.symm
  rw[hf];dsimp only;rw[Zc hb,Qr8 hn hp2 fun i hi=>⟨by have:=hp1 i hi;omega,(h i (Zl _ hi)).2⟩];rfl
def QxE {js:List Nat} (hn:js.Nodup) {s:Nat} (hs:s<js.length) {i:Nat}:i∈js.eraseIdx s↔i∈js∧i≠js[s]:=by
 constructor
 ·intro h;refine⟨mem_of_mem_eraseIdx h,fun e=>?_⟩;rw[eraseIdx_eq_take_drop_succ] at h;have hp:=pairwise_iff_getElem.1 (show Pairwise (·≠·) js from hn);rcases Zp.1 h with h | h
  ·obtain⟨a,ha,e2⟩:=mem_take_iff_getElem.1 h;exact hp a s (by omega) hs (by omega) (e2.trans e)
  ·obtain⟨a,ha,e2⟩:=mem_drop_iff_getElem.1 h;exact hp s (s+1+a) hs (by omega) (by omega) (e.symm.trans e2.symm)
 ·rintro ⟨h,hne⟩;obtain⟨a,ha,rfl⟩:=Yc h;rw[eraseIdx_eq_take_drop_succ];rcases Nat.lt_trichotomy a s with h' | h' | h'
  ·exact mem_append_left _ (mem_take_iff_getElem.2 ⟨a,by omega,rfl⟩)
  ·subst h';exact absurd rfl hne
  ·exact mem_append_right _ (mem_drop_iff_getElem.2 ⟨a - (s+1),by omega,by simp only[show s+1+(a - (s+1))=a by omega]⟩)
def Qni {x:Qa} (hc:QY x=[]):(nLim x>16∧whyR x=([],4))∨(nLim x≤16∧Qc6 x=true∧whyR x=([],6))∨(nLim x≤16∧Qc6 x=false∧whyR x=((whyJ x).map (Qh3 x),0)):=by
 unfold whyR;rw[hc];dsimp only;by_cases h16:nLim x>16
 ·rw[Zc h16];exact .inl ⟨h16,rfl⟩
 ·rw[Zd h16]
  cases hb:Qc6 x with
  | true=>rw[Zc rfl];exact .inr (.inl ⟨by omega,rfl,rfl⟩)
  | false=>rw[Zd (by simp)];exact .inr (.inr ⟨by omega,rfl,rfl⟩)
structure WhyOk (x:Qa):Prop where
 sorted:(whyJ x).Pairwise (·< ·)
 lt:∀j∈whyJ x,j<(Qdr x).length
 not:Qfj x (fun i=>(whyJ x).contains i)=false
 less:∀s,s<(whyJ x).length→Qfj x (fun i=>((whyJ x).eraseIdx s).contains i)=true
 pos:0<(whyJ x).length
 few:(whyJ x).length≤300
def QxF {x:Qa} (hc:QY x=[]) (h16:nLim x≤16) (hb:Qc6 x=false):WhyOk x:=by
 obtain⟨K,m,hmin,hbest,hsz⟩:=QrV hc h16 hb;have hmem:∀i,i∈whyJ x↔i∈wOf x K m:=fun i=>by rw[QrZ,hbest]
 have hsort:=QsC (x:=x) (by rw[hbest];exact QCh hc K m);have hnd:(whyJ x).Nodup:=hsort.imp fun h=>by omega
 have hl:(whyJ x).length=QbH x K m:=by rw[Qr0,hbest,Qmu h16 hmin.bad.lt]
 have h300:=QiC hc;refine⟨hsort,fun j hj=>?_,?_,fun s hs=>?_,by rw[hl];exact QrR hc h16 hmin.bad,by omega⟩
 ·rw[Qh2];exact w_lt hc ((hmem j).1 hj)
 ·rw[w_kept hc hmin.bad.good hmem];exact hmin.bad.bad
 ·refine w_less hc h16 hmin ((hmem _).1 (Zn hs)) fun i=>?_;rw[QxE hnd hs,hmem]
def QxG {x:Qa} (hc:QY x=[]) (h16:nLim x≤16) (hb:Qc6 x=false):Qof x ((whyJ x).map (Qh3 x))=0:=by have h:=QxF hc h16 hb;unfold Qof;rw[hc];dsimp only;rw[Zd (by omega)];have hm:QdZ (Qdr x) ((whyJ x).map (Qh3 x)) 0=some (whyJ x):=Qr8 (QsA hc) h.sorted fun j hj=>⟨by omega,h.lt j hj⟩;rw[hm];dsimp only;rw[h.not,Zd (by simp),Zc];exact Zt.2 fun s hs=>h.less s (ZH.1 hs)
def exS (lo:Int):Qa:=⟨0,[⟨[97],lo,5,[⟨[107],[],[],0,0,0,[],[]⟩,⟨[110],[],[],2,0,3,[],[]⟩]⟩],[],[⟨[114],[97],[],[110],-9⟩]⟩
def QlX (lo:Int):Qfh (exS lo):=⟨⟨by simp[exS],fun k hk=>by simp[exS] at hk;subst hk;simp⟩,⟨⟨by simp[exS],fun k hk=>by simp[exS] at hk;subst hk;refine⟨by simp,fun f hf=>?_⟩;simp at hf;rcases hf with rfl | rfl<;>simp⟩,⟨by simp[exS],fun l hl=>by cases hl⟩,by simp[exS]⟩,by simp[exS],by simp[exS]⟩
set_option maxRecDepth 100000 in
def QzK:QY (exS 1)=[]∧nLim (exS 1)=2∧Qc6 (exS 1)=false∧Qd2 (exS 1)=[0,3,4]∧QY (exS 0)=[]∧nLim (exS 0)=2∧Qc6 (exS 0)=true∧[0,3,4].map (Qh3 (exS 1))=[([97,32,108,101,97,115,116]:Str),([97,46,110,32,104,105,103,104]:Str),([114,117,108,101,58,114]:Str)]:=by decide+kernel
def Qr9:QeV=some true:=by
 obtain⟨h1,h2,h3,h4,h5,h6,h7,h8⟩:=QzK;have hJ:whyJ (exS 1)=[0,3,4]:=by unfold whyJ;rw[h4,←Qwv];decide
 have hR:whyR (exS 1)=((whyJ (exS 1)).map (Qh3 (exS 1)),0):=by
  rcases Qni h1 with⟨h,_⟩ | ⟨_,h,_⟩ | ⟨_,_,h⟩
  ·omega
  ·rw[h3] at h;cases h
  ·exact h
 have hR0:whyR (exS 0)=([],6):=by
  rcases Qni h5 with⟨h,_⟩ | ⟨_,_,h⟩ | ⟨_,h,_⟩
  ·omega
  ·exact h
  ·rw[h7] at h;cases h
 have hC:=QxG h1 (by omega) h3;rw[hJ,h8] at hR;rw[hJ,h8] at hC;have e1:QcX (1:Int)=some (exS 1):=rfl;have e0:QcX (0:Int)=some (exS 0):=rfl;unfold QeV;rw[e1,e0];simp only[Za];rw[Qr1 (QlX 1),Qr1 (QlX 0),hR,hR0];simp only[Za,opt,beq_self_eq_true,Bool.and_self,if_true];rw[QoO (by simp)];have e:((true&&true)==true)=true:=rfl;simp only[Za,e,if_true];rw[QuP (QlX 1) (by simp),hC];rfl
def QCq {n:Nat} {want:List Int} (hn:n≤1000) (hw:∀x∈want,I64 x):
  Ok (Ql (fun (s9:Int×List Int)=>((if (decide (s9.1<(n:Int)))=true then (QbB want s9.1 (12:Int)).bind fun t40=>(rm (s9.2.length+[t40].length)).bind fun _=>(some (.inl ((i64.wrap (s9.1+(1:Int))),(s9.2++[t40])))) else (some (.inr s9.2))):Option ((Int×List Int)⊕((List Int))))) ((0:Int),([]:List Int))) (fun W=>W.length=n∧NumP W):=by
 refine Ok.loop (fun m s=>∃i:Nat,s.1=(i:Int)∧i+m=n∧s.2.length=i∧NumP s.2) n ⟨0,rfl,by omega,rfl,fun z hz=>by cases hz⟩ fun m s ⟨i,hi,him,hl,hN⟩=>?_;obtain⟨s1,L⟩:=s;dsimp only at hi hl hN ⊢;subst hi;refine Ok.ite (fun h=>?_) (fun h=>?_)
 ·have h:i<n:=by simpa using h
  refine Ok.at1 hw (by decide) fun t a0 a1=>Ok.rm (by simp;omega) (Ok.mk ⟨m - 1,by omega,i+1,QH h (by omega),by omega,by simp;omega,fun z hz=>?_⟩);rcases Zp.1 hz with hz | hz
  ·exact hN z hz
  ·rw[Ze.1 hz];omega
 ·have h:¬i<n:=by simpa using h
  exact Ok.mk ⟨by omega,hN⟩
def QuX {x:Qa} (hc:QY x=[]):∀p∈refP (Qhk x),∃y∈Qbp x,y.A=p.1∧y.B=p.2∧y.Least=false∧0≤y.B:=by
 intro p hp;unfold refP at hp;obtain⟨r,hr,rfl⟩:=ZC.1 hp;unfold Qhk at hr;obtain⟨i,hi,hr⟩:=ZG.1 hr;have hi:=ZH.1 hi;unfold refK at hr;rw[Zb hi] at hr;obtain⟨j,hj,hr⟩:=ZG.1 hr;have hj:=ZH.1 hj;unfold refF at hr;rw[Zb hj] at hr;dsimp only at hr;split at hr
 ·next hk=>
  have hk1:x.Kinds[i].Fields[j].Kind=1:=by simpa using hk
  obtain rfl:=Ze.1 hr;obtain⟨r0,r1⟩:=QmM hc hi hj hk1;have hup:upIx x (i:Int) (j:Int)=Q9 x x.Kinds[i].Fields[j].Of:=by unfold upIx;rw[Qne hi hj];dsimp only;rw[Zd (by omega),Zc hk1];unfold QgF;rw[Zc r1]
  refine⟨Qe.mk (i:Int) (Q9 x x.Kinds[i].Fields[j].Of) x.Kinds[i].Fields[j].Hi false,?_,rfl,hup.symm,rfl,r0⟩;unfold Qbp limL;refine ZG.2 ⟨i,ZH.2 hi,?_⟩;unfold kndL;rw[Zb hi];refine mem_append_right _ (ZG.2 ⟨j,ZH.2 hj,?_⟩);unfold fldL;rw[Zb hj];dsimp only;rw[Zc hk];exact Zl _ (Zk ..)
 ·cases hr
def QxH {x:Qa} (hc:QY x=[]) (hb:Qc6 x=true):∃v:List Int,v.length=x.Kinds.length∧NumP v∧∀y∈Qbp x,QeB y v=true:=by have sx:=QkS hc;unfold Qc6 at hb;rw[QoX,QlM (show ∀z∈Qbp x,VL z x.Kinds.length from sx.lim) sx.refP] at hb;obtain⟨v,hv⟩:=hb;exact⟨v,hv.len,hv.num,hv.keep⟩
def QxI {x:Qa} (hc:QY x=[]) (hcl:∀k:Nat,k<x.Kinds.length→cyc x k=[]) {v:List Int} (hl:v.length=x.Kinds.length) (hN:NumP v) (hk:∀y∈Qbp x,QeB y v=true):Qc6 x=true:=by
 have sx:=QkS hc;unfold Qc6;rw[QoX,QlM (show ∀z∈Qbp x,VL z x.Kinds.length from sx.lim) sx.refP];refine⟨v,hl,hN,hk,fun a b hab hp=>?_,fun k k0 k1 hE=>?_⟩
 ·obtain⟨y,hy,e1,e2,e3,e4⟩:=QuX hc (a,b) hab;have hky:=hk y hy;unfold QeB bndS at hky;rw[e3,Zd (by simp),Zd (by omega)] at hky;have hky:=ZA hky;dsimp only at e1 e2;rw[e1,e2] at hky;have hb:=(sx.refP (a,b) hab).2;have h0:=(hN _ (QcZ hb.1 (by rw[hl];exact hb.2))).1;by_cases hz:nth v b=0
  ·rw[hz,Int.mul_zero] at hky;omega
  ·dsimp only at h0;omega
 ·obtain⟨n,rfl⟩:=Zw k0;have:=hcl n (by omega);unfold cyc at this;rw[this] at hE;cases hE
def QuY {x:Qa} (hc:QY x=[]):
  (Ql (fun (s30:Int×Bool)=>((if (decide (s30.1<((x).Kinds.length:Int)))=true then (Ql (fun (s134:Int×List Qz)=>((if (decide (s134.1<(((Qaz x).map mkN).length:Int)))=true then (idx ((Qaz x).map mkN) s134.1).bind fun t79=>((if ((t79).Kind==s30.1)=true then (idx ((Qaz x).map mkN) s134.1).bind fun t87=>(idx ((Qaz x).map mkN) s134.1).bind fun t93=>(idx ((Qaz x).map mkN) s134.1).bind fun t99=>(rm (s134.2.length+[(Qz.mk ((t87).Diff).A ((t93).Diff).B ((t99).Diff).N)].length)).bind fun _=>(some (s134.2++[(Qz.mk ((t87).Diff).A ((t93).Diff).B ((t99).Diff).N)])) else (some s134.2))).bind fun (p163:List Qz)=>(some (.inl ((i64.wrap (s134.1+(1:Int))),p163))) else (some (.inr s134.2))):Option ((Int×List Qz)⊕((List Qz))))) ((0:Int),([]:List Qz))).bind fun (p155:(List Qz))=>(idx (x).Kinds s30.1).bind fun t110=>(Qd6 ((t110).Fields.length:Int) p155).bind fun t115=>(some (.inl ((i64.wrap (s30.1+(1:Int))),(s30.2&&(t115.2==(0:Int)))))) else (some (.inr s30.2))):Option ((Int×Bool)⊕((Bool))))) ((0:Int),true))=some ((range x.Kinds.length).all fun k=>(cyc x k).isEmpty):=by
 have hv:=Qav hc;have h1:=QgY hv;have hk6:=hv.kinds;refine Qcn x.Kinds.length (fun n=>((n:Int),(range n).all fun k=>(cyc x k).isEmpty)) _ (fun i hi=>?_) (by dsimp only;rw[Zd (by simp)]);dsimp only;rw[Zc (by simpa using hi)];rw[QtJ ((Qaz x).map mkN) (fun t=>t.Kind==(i:Int)) (fun t=>t.Diff) (fun k hk acc ha=>?_) (fun acc=>by rw[Zd (by simp)])]
 ·have e:((((Qaz x).map mkN).filter fun t=>t.Kind==(i:Int)).map fun t=>t.Diff)=ownD x (i:Int) fun _=>true:=by
   rw[←QCf,QoX,filter_map,Yw];rfl
  simp only[Za];rw[e,QX hi];simp only[Za];rw[Qza];simp only[Za];rw[QH hi (by omega),Yf,all_append];congr 4;simp only[all_cons,all_nil,Bool.and_true];have hz:=Qsx (Qg1 hc (k:=(i:Int)) (by omega) (by omega) fun _=>true);rw[show ((flen x (i:Int)+1:Nat):Int) - 1=(x.Kinds[i].Fields.length:Int) by rw[QtK hi];omega] at hz;rw[hz];have hneg:=QtH hc (k:=(i:Int)) (by omega) (by omega) fun _=>true;have hcy:=(Qmo hc (k:=(i:Int)) (by omega) (by omega) fun _=>true).1
  cases hcc:cyc x i with
  | nil=>have:¬NegK x (i:Int) fun j=>(fun _=>true) j=true:=fun h=>hcy.2 h hcc;rw[Zd (fun h=>this (hneg.1 h))];rfl
  | cons a l=>have:NegK x (i:Int) fun j=>(fun _=>true) j=true:=hcy.1 (by show cyc x i≠[];rw[hcc];simp);rw[Zc (hneg.2 this)];rfl
 ·rw[ZT] at hk;dsimp only;rw[Zc (by simpa using hk),QX (by simpa using hk)];simp only[Za];rw[QH hk (by omega)]
  cases hp:(((Qaz x).map mkN)[k]'(by simpa using hk)).Kind==(i:Int) with
  | false=>simp
  | true=>rw[Zc rfl,Qb2 (by simp;omega),Zc rfl];rfl
def Qo0 (l m want:List Int) (i0:∀x∈l,I64 x) (i1:∀x∈m,I64 x) (i2:∀x∈want,I64 x):QdX l m want=some true:=by
 have key:Ok (QdX l m want) (fun r=>r=true):=by
  unfold QdX;rw[Qr9];refine (QuW i0).bind fun x0 hx0=>?_;have hx0s:=hx0.clean.short;refine (QzJ hx0s hx0s.few.2 i1).bind fun x hx=>?_;have hcl:=(hx.genS (by decide) hx0).clean;have hs:=hcl.short;have hc:=hcl.clean;have hk3:=hcl.few;rw[Qr1 hs];simp only[Za];refine (QCq (by omega) i2).bind fun W ⟨hW,nW⟩=>?_;rw[QB9 hs hc (by omega),Qm2 hs,hc];simp only[Za];refine Ok.ite (fun _=>Ok.mk rfl) (fun h4=>?_);simp only[Bool.or_eq_false_iff,beq_eq_false_iff_ne,YB] at h4;obtain⟨⟨_,he4⟩,hf4⟩:=h4;rw[QwU hs hc];simp only[Za];rw[QuY hc];simp only[Za];have hv:∀y∈Qbp x,VL y (W.length:Int)∧y.B<y.A:=fun y hy=>by rw[hW];exact QlR hc y hy
  have hplan:QfF x (Qbp x) W=(if (Qdg (Qbp x) W (QcT (Qbp x) W.length)).2<0 then ([],14) else ((Qdg (Qbp x) W (QcT (Qbp x) W.length)).1.L.take W.length,0))∨(QfF x (Qbp x) W).2=4:=by
   have hno:¬(W.length≠x.Kinds.length∨numL W=false):=by
    rintro (h | h)
    ·exact h hW
    ·rw[QtF.2 nW] at h;cases h
   unfold QfF;rw[Zd hno];split
   ·exact .inr rfl
   ·exact .inl rfl
  have hplan:=hplan.resolve_right hf4;have hL:limL Qe.mk x=Qbp x:=rfl;rw[hL];have hway:((whyR x).2=6∧Qc6 x=true)∨((whyR x).2=0∧Qc6 x=false∧0<(whyR x).1.length):=by
   rcases Qni hc with⟨_,h⟩ | ⟨_,hb,h⟩ | ⟨h16,hb,h⟩
   ·rw[h] at he4;exact absurd rfl he4
   ·exact .inl ⟨by rw[h],hb⟩
   ·exact .inr ⟨by rw[h],hb,by rw[h];simpa using (QxF hc h16 hb).pos⟩
  have hfine:(((range x.Kinds.length).all fun k=>(cyc x k).isEmpty)=true→((whyR x).2=6↔(QfF x (Qbp x) W).2=0))∧((QfF x (Qbp x) W).2=14→(whyR x).2=0)∧((QfF x (Qbp x) W).2=0→(QfF x (Qbp x) W).1.length=x.Kinds.length):=by
   rw[hplan];by_cases hneg:(Qdg (Qbp x) W (QcT (Qbp x) W.length)).2<0
   ·rw[Zc hneg];have hno:Qc6 x=false:=by
     cases hb:Qc6 x with
     | false=>rfl
     | true=>obtain⟨v,v1,v2,v3⟩:=QxH hc hb;exact absurd v3 (QxA hv hneg (by rw[v1,hW]) v2)
    rcases hway with⟨_,hb⟩ | ⟨h0,_,_⟩
    ·rw[hno] at hb;cases hb
    ·exact⟨fun _=>⟨fun h=>(by rw[h0] at h;cases h),fun h=>(nomatch h)⟩,fun _=>h0,fun h=>(nomatch h)⟩
   ·rw[Zd hneg];obtain⟨n1,n2,n3,_⟩:=QxB hv (by omega) hneg;refine⟨fun hclean=>⟨fun _=>rfl,fun _=>?_⟩,fun h=>(by cases h),fun _=>by rw[←hW];exact n1⟩;have hb:=QxI hc (fun k hk=>by
     have:=Zt.1 hclean k (ZH.2 hk);simpa using this) (by rw[n1,hW]) n2 n3
    rcases hway with⟨h6,_⟩ | ⟨_,hb',_⟩
    ·exact h6
    ·rw[hb] at hb';cases hb'
  obtain⟨f1,f2,f3⟩:=hfine;have g1:¬((((range x.Kinds.length).all fun k=>(cyc x k).isEmpty)&&(((whyR x).2==(6:Int)) !=((QfF x (Qbp x) W).2==(0:Int))))=true):=by simp only[Zg,bne_iff_ne,YB,not_and,Classical.not_not];intro h;have:=f1 h;rw[ZZ];simp only[Ye];exact this
  have g2:¬(((((QfF x (Qbp x) W).2==(14:Int))&&((whyR x).2 !=(0:Int)))||(((QfF x (Qbp x) W).2==(0:Int))&&(((QfF x (Qbp x) W).1.length:Int) !=(x.Kinds.length:Int))))=true):=by simp only[Zz,Zg,Ye,bne_iff_ne,YB,not_or,not_and,Classical.not_not];exact⟨f2,fun h=>by rw[f3 h]⟩
  rw[Zd g1,Zd g2];have hend:(((whyR x).2 !=(0:Int))||(decide (((whyR x).1.length:Int)>(0:Int))))=true:=by
   rcases hway with⟨h6,_⟩ | ⟨_,_,hp⟩
   ·rw[h6];rfl
   ·rw[Zz];exact .inr (decide_eq_true (by omega))
  rw[hend];exact Ok.mk rfl
 obtain⟨r,hr,rfl⟩:=key;exact hr

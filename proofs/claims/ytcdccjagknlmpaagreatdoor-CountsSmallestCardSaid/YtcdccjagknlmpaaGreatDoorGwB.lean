/- The generator gives schemas without problems: what a new kind looks like. No condition. -/
import Derived.Test.YtcdccjagknlmpaaGreatDoorTyO
namespace Go.Proofs.YtcdccjagknlmpaaGreatDoor
open Go.Sim

def QiH : List Str := [[112,101,114,115,111,110],[111,114,100,101,114],[105,116,101,109]]
theorem QnX {p : List Qc} (h : p.map sg ∈ Qa4) : p.length ≤ 2 := by
 have e : p.length = (p.map sg).length := by simp
 simp only [Qa4,List.mem_cons,List.not_mem_nil,or_false] at h
 rw [e]
 rcases h with h | h | h | h | h | h <;> rw [h] <;> decide
set_option maxHeartbeats 1000000 in
theorem kind_w {m : Qv} {l : List Qi} {N : Nat} (hm : MOk m) (hl : l.length ≤ 2) (hN : N ≤ 20) (hk : ∀ k ∈ l,k.Fields.length ≤ N) (hw : ∀ k ∈ l,k.Hi - k.Lo ≤ 29) :
  Ok (Qbk m l) (fun r => (QiH[l.length]? = some r.1.Name ∧ r.1.Hi - r.1.Lo ≤ 29) ∧ (MOk r.2.1 ∧ ∀ k ∈ r.2.2,k.Hi - k.Lo ≤ 29) ∧ Qdx (l.map ks) (ks r.1) (r.2.2.map ks)) := by
 unfold Qbk
 refine Ok.take hm (by decide) fun r1 m1 a1 b1 h1 => ?_
 refine Ok.idx a1 (by simpa using b1) fun lo hlo _ => ?_
 refine Ok.idx (by omega) (by simp; omega) fun name _ ename => ?_
 have hlo2 : 0 ≤ lo ∧ lo ≤ 4 := by
  simp only [List.mem_cons,List.not_mem_nil,or_false] at hlo
  omega
 refine Ok.take h1 (by decide) fun r2 m2 a2 b2 h2 => ?_
 refine Ok.take h2 (by decide) fun r3 m3 a3 b3 h3 => ?_
 refine Ok.idx a3 (by simpa using b3) fun id0 hid _ => ?_
 refine Ok.rm (by simp) ?_
 refine Ok.bind (P := fun p : Qv × List Qc × List Qi => MOk p.1 ∧ p.2.1.length ≤ 4 ∧ (p.2.2.length = l.length ∧ ∀ k ∈ p.2.2,k.Hi - k.Lo ≤ 29) ∧ PreS (l.map ks) name (p.2.1.map sg) (p.2.2.map ks))
  (Ok.ite (fun hpos => ?_) (fun hz => Ok.mk ⟨h3,by simp,⟨rfl,hw⟩,.inl ⟨?_,rfl,rfl⟩⟩)) fun p hp => ?_
 ·have hpos' : (0:Int) < l.length := of_decide_eq_true hpos
  refine Ok.take h3 (by omega) fun to m4 a4 b4 h4 => ?_
  refine Ok.idx a4 b4 fun kt hkt ekt => ?_
  have hT : (l.map ks)[to.toNat]? = some (ks kt) := by rw [List.getElem?_map,ekt]; rfl
  refine Ok.take h4 (by decide) fun r5 m5 a5 b5 h5 => ?_
  refine Ok.idx a5 (by simpa using b5) fun hi hhi _ => ?_
  refine Ok.take h5 (by decide) fun r6 m6 _ _ h6 => ?_
  refine Ok.bind (P := fun f => sg f = sOf kt.Name) (Ok.ite (fun _ => Ok.mk rfl) (fun _ => Ok.mk rfl)) fun f hf => ?_
  refine Ok.rm (by simp) ?_
  refine Ok.idx a4 b4 fun kt1 hkt1 ekt1 => ?_
  have e : kt1 = kt := Option.some.inj (ekt1.symm.trans ekt)
  subst e
  refine (Qut (by have := hk _ hkt1; omega)).bind fun c hc => ?_
  refine Ok.opt (P := fun r : Int × Qv => MOk r.2) (fun h => (Qd3 h6 (by decide)).weak fun r h => h.2.2) fun r7 h7 => ?_
  have m7 : MOk (bif (decide (c ≥ (0:Int))) == true then r7.2 else m6) := QdH (fun h => h7 (by rw [h]; rfl)) h6
  refine Ok.bind (P := fun p : List Qc => p.length ≤ 3 ∧ ∃ cp,p.map sg = sId :: sOf kt1.Name :: cp ∧ (cp = [] ∨ ∃ g ∈ (ks kt1).2,(g.2.1 ≠ 0 ∧ g.2.1 ≠ 1 ∧ g.2.1 ≠ 6 ∧ g.2.1 ≠ 7) ∧ cp = [Qi9 g.1])) (Ok.ite (fun h => ?_) (fun _ => Ok.mk ⟨by simp,[],?_,.inl rfl⟩)) fun fs hfs => ?_
  ·simp only [Bool.and_eq_true,decide_eq_true_eq] at h
   refine Ok.idx a4 b4 fun kt2 hkt2 ekt2 => ?_
   have e : kt2 = kt1 := Option.some.inj (ekt2.symm.trans ekt)
   subst e
   refine Ok.idx h.1 hc.1.2 fun g hg eg => Ok.rm (by simp) (Ok.mk ⟨by simp,[Qi9 g.Name],?_,.inr ⟨sg g,List.mem_map_of_mem hg,?_,rfl⟩⟩)
   ·show [sId,sg f,Qi9 g.Name] = _
    rw [hf]
   ·obtain ⟨g',eg',hg'⟩ := hc.2 h.1
    have e : g' = g := Option.some.inj (eg'.symm.trans eg)
    subst e
    exact hg'
  ·show [sId,sg f] = _
   rw [hf]
  ·obtain ⟨hfl,cp,hfm,hcp⟩ := hfs
   refine Ok.idx a4 b4 fun kt3 hkt3 ekt3 => ?_
   have e : kt3 = kt1 := Option.some.inj (ekt3.symm.trans ekt)
   subst e
   refine (Qpv (by have := hk _ hkt3; omega)).bind fun tot htot => ?_
   refine Ok.opt (P := fun r : Int × Qv => MOk r.2) (fun h => (Qd3 m7 (by decide)).weak fun r h => h.2.2) fun r8 h8 => ?_
   have m8 : MOk (bif (decide (tot < (0:Int))) == true then r8.2 else (bif (decide (c ≥ (0:Int))) == true then r7.2 else m6)) := QdH (fun h => h8 (by rw [h]; rfl)) m7
   refine Ok.bind (P := fun p : Qv × List Qc × List Qi => MOk p.1 ∧ p.2.1.length ≤ 4 ∧ (p.2.2.length = l.length ∧ ∀ k ∈ p.2.2,k.Hi - k.Lo ≤ 29) ∧ PreS (l.map ks) name (p.2.1.map sg) (p.2.2.map ks))
    (Ok.ite (fun h => ?_) (fun _ => Ok.mk ⟨m8,by dsimp only; omega,⟨rfl,hw⟩,.inr ⟨to.toNat,ks kt3,cp,[],hT,by rw [hfm,List.append_nil]; rfl,hcp,.inl ⟨rfl,rfl⟩⟩⟩)) fun p hp => Ok.mk hp
   simp only [Bool.and_eq_true,decide_eq_true_eq] at h
   refine Ok.take m8 (by decide) fun r9 m9 a9 b9 h9 => Ok.take h9 (by decide) fun r10 m10 a10 b10 h10 => ?_
   refine Ok.rm (by simp; omega) ?_
   refine Ok.idx a4 b4 fun kt4 hkt4 ekt4 => ?_
   have hk4 := hk _ hkt4
   refine Ok.rm (by simp; omega) (Ok.rm (by simp; omega) ?_)
   have e : kt4 = kt3 := Option.some.inj (ekt4.symm.trans ekt)
   subst e
   refine Ok.idx a4 b4 fun kt5 hkt5 ekt5 => ?_
   have e : kt5 = kt4 := Option.some.inj (ekt5.symm.trans ekt)
   subst e
   refine Ok.setAt a4 b4 (Ok.mk ⟨h10,by simp; omega,⟨by simp,fun k hkm => ?_⟩,.inr ⟨to.toNat,ks kt5,cp,[QhV],hT,?_,hcp,.inr ⟨?_,rfl,?_⟩⟩⟩)
   ·rcases List.mem_or_eq_of_mem_set hkm with hkm | rfl
    ·exact hw k hkm
    ·exact hw kt5 hkt5
   ·dsimp only
    rw [List.map_append,hfm]
    rfl
   ·intro g hg
    obtain ⟨f',hf',rfl⟩ := List.mem_map.1 hg
    exact htot.2.1 h.1 f' hf'
   ·dsimp only
    rw [List.map_set]
    congr 1
    simp [ks,sg,QhW,QgP]
 ·have : ¬ ((l.length : Int) > 0) := of_decide_eq_false hz
  simp
  exact List.length_eq_zero_iff.1 (by omega)
 ·obtain ⟨q1,q2,⟨q4,q7⟩,q5⟩ := hp
  refine Ok.opt (P := fun r : Int × Qv => MOk r.2) (fun h => (Qd3 q1 (by decide)).weak fun r h => h.2.2) fun r11 h11 => ?_
  have m11 : MOk (bif (decide ((l.length : Int) > (1:Int))) == true then r11.2 else p.1) := QdH (fun h => h11 (by rw [h]; rfl)) q1
  refine Ok.bind (P := fun f : List Qc => f.length ≤ 5 ∧ ∃ by',f.map sg = p.2.1.map sg ++ by' ∧ (by' = [] ∨ (1 < (l.map ks).length ∧ ∃ t,(p.2.2.map ks)[0]? = some t ∧ by' = [sBy t.1]))) (Ok.ite (fun h => ?_) (fun _ => Ok.mk ⟨by omega,[],by simp,.inl rfl⟩)) fun fs hfs => ?_
  ·simp only [Bool.and_eq_true,decide_eq_true_eq] at h
   refine Ok.idx (by decide) (by omega) fun k0 hk0 ek0 => Ok.rm (by simp; omega) (Ok.mk ⟨by simp; omega,[sBy k0.Name],by rw [List.map_append]; rfl,.inr ⟨by simp; omega,ks k0,?_,rfl⟩⟩)
   rw [List.getElem?_map]
   rw [show (0:Int).toNat = 0 from rfl] at ek0
   rw [ek0]; rfl
  ·refine (Qro m11).bind fun r12 h12 => ?_
   obtain ⟨c1,c3⟩ := h12
   have c2 := QnX c1
   obtain ⟨f1,by',f2,f3⟩ := hfs
   refine Ok.rm (by omega) ?_
   refine Ok.take c3 (by decide) fun r13 m13 _ _ h13 => ?_
   have eh : IntKind.i64.wrap (lo + r2) = lo + r2 := w64 (by omega) (by omega)
   refine Ok.bind (P := fun q : Qv × List Qc => MOk q.1 ∧ ∃ p2,q.2.map sg = p.2.1.map sg ++ by' ++ r12.1.map sg ++ p2 ∧ (p2 = [] ∨ (p2 ∈ Qa4 ∧ ∀ g,p2[0]? = some g → ∀ f ∈ p.2.1.map sg ++ by' ++ r12.1.map sg,f.1 ≠ g.1))) (Ok.ite (fun h => ?_) (fun _ => Ok.mk ⟨h13,[],by rw [List.map_append,f2,List.append_nil],.inl rfl⟩)) fun p52 hp52 => ?_
   ·refine (Qro h13).bind fun r14 h14 => ?_
    obtain ⟨d1,d3⟩ := h14
    have d2 := QnX d1
    refine Ok.opt (P := fun v => r14.1[0]? = some v) (fun h => ?_) fun g hg => ?_
    ·have h' : (r14.1.length : Int) > 0 := by simpa using h
     exact (Ok.idx (by decide) (by omega) fun v _ ev => Ok.mk ev : Ok ((idx r14.1 0).bind some) (fun v => r14.1[0]? = some v)).weak (fun _ h => h) |> fun h => by simpa using h
    refine Ok.opt (P := fun t => t < 0 → ∀ f ∈ fs ++ r12.1,f.Name ≠ g.Name) (fun h => (Qpv (by rw [List.length_append]; omega)).weak fun _ h => h.2.1) fun g2 hg2 => ?_
    refine Ok.bind (P := fun q : List Qc => ∃ p2,q.map sg = p.2.1.map sg ++ by' ++ r12.1.map sg ++ p2 ∧ (p2 = [] ∨ (p2 ∈ Qa4 ∧ ∀ g,p2[0]? = some g → ∀ f ∈ p.2.1.map sg ++ by' ++ r12.1.map sg,f.1 ≠ g.1))) (Ok.ite (fun h => Ok.rm (by rw [List.length_append]; omega) (Ok.mk ⟨r14.1.map sg,by rw [List.map_append,List.map_append,f2],.inr ⟨d1,fun s hs f hf => ?_⟩⟩)) (fun _ => Ok.mk ⟨[],by rw [List.map_append,f2,List.append_nil],.inl rfl⟩)) fun p64 hp64 => Ok.mk ⟨d3,hp64⟩
    simp only [Bool.and_eq_true,decide_eq_true_eq] at h
    have e1 := hg (by simpa using h.1)
    have e2 := hg2 (by simpa using h.1) h.2
    rw [List.getElem?_map,e1] at hs
    cases hs
    rw [← f2,← List.map_append] at hf
    obtain ⟨f',hf',rfl⟩ := List.mem_map.1 hf
    exact e2 f' hf'
   ·obtain ⟨z1,p2,z2,z3⟩ := hp52
    refine Ok.mk ⟨⟨?_,?_⟩,⟨z1,q7⟩,p.2.1.map sg,by',r12.1.map sg,p2,q5,f3,c1,z3,z2⟩
    ·simpa [QiH] using ename
    ·dsimp only; rw [eh]; omega

end Go.Proofs.YtcdccjagknlmpaaGreatDoor

namespace Go.Proofs.YtcdccjagknlmpaaGreatDoor
open Go.Sim

def nLow : Str := [108,111,119]
def Qk5 : Str := [104,105,103,104]
def Qmm : Str := [115,105,122,101]
/-- A rule of a kind: its name ends with the first letter of the kind's. -/
def QrT (q : Ks) (r : Qo) : Prop :=
 r.Kind = q.1 ∧ (∃ p : Str,r.Name = p ++ q.1.take 1) ∧
  ((r.A = nLow ∧ r.B = Qk5 ∧ ∃ g ∈ q.2,g.1 = nLow) ∨ ((∃ g ∈ q.2,g.1 = Qmm) ∧ ((r.A = Qmm ∧ r.B = []) ∨ (r.A = [] ∧ r.B = Qmm))))
theorem rule_w {m : Qv} {k : Qi} (hm : MOk m) (hf : k.Fields.length ≤ 1000) (h0 : 1 ≤ k.Name.length) (h1 : k.Name.length ≤ 1000) : Ok (Qbl m k) (fun r => (r.2.1 = true → QrT (ks k) r.1) ∧ MOk r.2.2) := by
 unfold Qbl
 have hs : sub k.Name 0 1 = some (k.Name.take 1) := by
  unfold sub
  rw [if_pos ⟨by decide,by decide,by omega⟩]
  rfl
 have hl : (k.Name.take 1).length ≤ 1 := by rw [List.length_take]; omega
 have sgm : ∀ {n : Str},(∃ f ∈ k.Fields,f.Name = n) → ∃ g ∈ (ks k).2,g.1 = n := fun ⟨f,hf,e⟩ => ⟨sg f,List.mem_map_of_mem hf,e⟩
 rw [hs]
 simp only [Option.bind_some]
 refine (Qpv hf).bind fun a ha => (Qpv hf).bind fun b hb => ?_
 refine Ok.opt (P := fun r : Int × Qv => MOk r.2) (fun h => (Qd3 hm (by decide)).weak fun r h => h.2.2) fun r1 h1 => ?_
 have m1 : MOk (bif (decide (a ≥ (0:Int))) == true then r1.2 else m) := QdH (fun h => h1 (by rw [h]; rfl)) hm
 refine Ok.ite (fun h => Ok.cat (by simp; omega) (Ok.take m1 (by decide) fun v m2 a2 b2 h2 => Ok.mk ⟨fun _ => ?_,h2⟩)) (fun _ => ?_)
 ·simp only [Bool.and_eq_true,decide_eq_true_eq] at h
  exact ⟨rfl,⟨_,rfl⟩,.inl ⟨rfl,rfl,sgm (ha.2.2 h.1)⟩⟩
 refine Ok.ite (fun _ => Ok.mk ⟨fun h => (by cases h),m1⟩) (fun h => ?_)
 have hb0 : ¬ b < 0 := of_decide_eq_false h
 refine Ok.idx (by omega) hb.1.2 fun f hf _ => Ok.take m1 (by decide) fun r2 m2 _ _ h2 => ?_
 refine Ok.ite (fun _ => Ok.cat (by simp; omega) (Ok.take h2 (by decide) fun v m2 a2 b2 h2 => Ok.mk ⟨fun _ => ?_,h2⟩)) (fun _ => Ok.cat (by simp; omega) (Ok.take h2 (by decide) fun v m2 a2 b2 h2 => Ok.mk ⟨fun _ => ?_,h2⟩))
 ·exact ⟨rfl,⟨_,rfl⟩,.inr ⟨sgm (hb.2.2 (by omega)),.inl ⟨rfl,rfl⟩⟩⟩
 ·exact ⟨rfl,⟨_,rfl⟩,.inr ⟨sgm (hb.2.2 (by omega)),.inr ⟨rfl,rfl⟩⟩⟩

end Go.Proofs.YtcdccjagknlmpaaGreatDoor

namespace Go.Proofs.YtcdccjagknlmpaaGreatDoor
open Go.Sim

set_option maxHeartbeats 1000000 in
theorem Qrp {m : Qv} {l : List Qi} {N : Nat} (hm : MOk m) (hl : l.length ≤ 2) (hN : N ≤ 20) (hk : ∀ k ∈ l,KV N k) :
  Ok (Qbk m l) (fun r => (KV 9 r.1 ∧ (l.length ≤ 1 → KV 8 r.1) ∧ (l.length = 0 → KV 5 r.1)) ∧ MOk r.2.1 ∧ r.2.2.length = l.length ∧ ∀ k ∈ r.2.2,KV (N + 1) k) := by
 unfold Qbk
 refine Ok.take hm (by decide) fun r1 m1 a1 b1 h1 => ?_
 refine Ok.idx a1 (by simpa using b1) fun lo hlo _ => ?_
 refine Ok.idx (by omega) (by simp; omega) fun name hname _ => ?_
 have hsn : Q2 name = true := by
  simp only [List.mem_cons,List.not_mem_nil,or_false] at hname
  rcases hname with rfl | rfl | rfl <;> decide
 have hlo2 : 0 ≤ lo ∧ lo ≤ 4 := by
  simp only [List.mem_cons,List.not_mem_nil,or_false] at hlo
  omega
 refine Ok.take h1 (by decide) fun r2 m2 a2 b2 h2 => ?_
 refine Ok.take h2 (by decide) fun r3 m3 a3 b3 h3 => ?_
 refine Ok.idx a3 (by simpa using b3) fun id0 hid _ => ?_
 have hid2 : VF ⟨[105,100],[],[],0,id0,0,[],[]⟩ := by
  simp only [List.mem_cons,List.not_mem_nil,or_false] at hid
  exact vf_key (by decide) (by omega)
 have hone : ∀ f ∈ ([⟨[105,100],[],[],0,id0,0,[],[]⟩] : List Qc),VF f := fun f hf => by rw [List.mem_singleton] at hf; subst hf; exact hid2
 refine Ok.rm (by simp) ?_
 refine Ok.bind (P := fun p : Qv × List Qc × List Qi => MOk p.1 ∧ (p.2.1.length ≤ 4 ∧ (l.length = 0 → p.2.1.length ≤ 1)) ∧ (∀ f ∈ p.2.1,VF f) ∧ p.2.2.length = l.length ∧ ∀ k ∈ p.2.2,KV (N + 1) k)
  (Ok.ite (fun hpos => ?_) (fun _ => Ok.mk ⟨h3,⟨by simp,by simp⟩,hone,rfl,fun k h => (hk k h).weak (by omega)⟩)) fun p hp => ?_
 ·have hpos' : (0:Int) < l.length := of_decide_eq_true hpos
  refine Ok.take h3 (by omega) fun to m4 a4 b4 h4 => ?_
  refine Ok.idx a4 b4 fun kt hkt ekt => ?_
  refine Ok.take h4 (by decide) fun r5 m5 a5 b5 h5 => ?_
  refine Ok.idx a5 (by simpa using b5) fun hi hhi _ => ?_
  have hhi2 : 2 ≤ hi ∧ hi ≤ 8 := by
   simp only [List.mem_cons,List.not_mem_nil,or_false] at hhi
   omega
  refine Ok.take h5 (by decide) fun r6 m6 _ _ h6 => ?_
  have skt := (hk kt hkt).2.2.1
  refine Ok.bind (P := VF) (Ok.ite (fun _ => Ok.mk (Qqr (by decide) skt (by omega))) (fun _ => Ok.mk (Qqr (by decide) skt (by omega)))) fun f hf => ?_
  refine Ok.rm (by simp) ?_
  refine Ok.idx a4 b4 fun kt1 hkt1 _ => ?_
  refine (QoT (by have := (hk _ hkt1).1; omega)).bind fun c hc => ?_
  refine Ok.opt (P := fun r : Int × Qv => MOk r.2) (fun h => (Qd3 h6 (by decide)).weak fun r h => h.2.2) fun r7 h7 => ?_
  have m7 : MOk (bif (decide (c ≥ (0:Int))) == true then r7.2 else m6) := QdH (fun h => h7 (by rw [h]; rfl)) h6
  refine Ok.bind (P := fun p : List Qc => p.length ≤ 3 ∧ ∀ f ∈ p,VF f) (Ok.ite (fun h => ?_) (fun _ => Ok.mk ⟨by simp,?_⟩)) fun fs hfs => ?_
  ·simp only [Bool.and_eq_true,decide_eq_true_eq] at h
   refine Ok.idx a4 b4 fun kt2 hkt2 ekt2 => ?_
   have e : kt2 = kt1 := by simp_all
   subst e
   refine Ok.idx h.1 hc.2 fun g hg _ => Ok.rm (by simp) (Ok.mk ⟨by simp,?_⟩)
   have sg := ((hk _ hkt1).2.1 g hg).name
   intro x hx
   simp only [List.nil_append,List.cons_append,List.mem_cons,List.not_mem_nil,or_false] at hx
   rcases hx with rfl | rfl | rfl
   ·exact hid2
   ·exact hf
   ·exact Qwi (by decide) sg (by decide)
  ·intro x hx
   simp only [List.nil_append,List.cons_append,List.mem_cons,List.not_mem_nil,or_false] at hx
   rcases hx with rfl | rfl
   ·exact hid2
   ·exact hf
  ·refine Ok.idx a4 b4 fun kt3 hkt3 ekt3 => ?_
   refine (QiE (by have := (hk _ hkt3).1; omega)).bind fun tot htot => ?_
   refine Ok.opt (P := fun r : Int × Qv => MOk r.2) (fun h => (Qd3 m7 (by decide)).weak fun r h => h.2.2) fun r8 h8 => ?_
   have m8 : MOk (bif (decide (tot < (0:Int))) == true then r8.2 else (bif (decide (c ≥ (0:Int))) == true then r7.2 else m6)) := QdH (fun h => h8 (by rw [h]; rfl)) m7
   refine Ok.bind (P := fun p : Qv × List Qc × List Qi => MOk p.1 ∧ (p.2.1.length ≤ 4 ∧ (l.length = 0 → p.2.1.length ≤ 1)) ∧ (∀ f ∈ p.2.1,VF f) ∧ p.2.2.length = l.length ∧ ∀ k ∈ p.2.2,KV (N + 1) k)
    (Ok.ite (fun h => ?_) (fun _ => Ok.mk ⟨m8,⟨by have := hfs.1; dsimp only; omega,fun h0 => by omega⟩,hfs.2,rfl,fun k h => (hk k h).weak (by omega)⟩)) fun p hp => Ok.mk hp
   refine Ok.take m8 (by decide) fun r9 m9 a9 b9 h9 => Ok.take h9 (by decide) fun r10 m10 a10 b10 h10 => ?_
   refine Ok.rm (by have := hfs.1; simp; omega) ?_
   refine Ok.idx a4 b4 fun kt4 hkt4 ekt4 => ?_
   have hk4 := hk _ hkt4
   have hk41 := hk4.1
   refine Ok.rm (by simp; omega) (Ok.rm (by simp; omega) ?_)
   refine Ok.idx a4 b4 fun kt5 hkt5 ekt5 => ?_
   have e : kt5 = kt4 := by simp_all
   subst e
   refine Ok.setAt a4 b4 (Ok.mk ⟨h10,⟨?_,fun h0 => by omega⟩,?_,?_,?_⟩)
   ·have := hfs.1; simp; omega
   ·intro x hx
    rcases List.mem_append.1 hx with hx | hx
    ·exact hfs.2 x hx
    ·rw [List.mem_singleton] at hx; subst hx
     rw [w64 (n := r9 + r10) (by omega) (by omega)]
     exact Qus (by decide) (by decide) (by decide) (by omega)
   ·simp
   ·intro k hkm
    rcases List.mem_or_eq_of_mem_set hkm with hkm | rfl
    ·exact (hk k hkm).weak (by omega)
    ·refine ⟨?_,?_,hk4.2.2⟩
     ·simp; omega
     ·intro x hx
      rcases List.mem_append.1 hx with hx | hx
      ·exact hk4.2.1 x (by simpa using hx)
      ·rw [List.mem_singleton] at hx; subst hx; exact vf_sum (by decide) hsn
 ·obtain ⟨q1,⟨q2,q6⟩,q3,q4,q5⟩ := hp
  refine Ok.opt (P := fun r : Int × Qv => MOk r.2) (fun h => (Qd3 q1 (by decide)).weak fun r h => h.2.2) fun r11 h11 => ?_
  have m11 : MOk (bif (decide ((l.length : Int) > (1:Int))) == true then r11.2 else p.1) := QdH (fun h => h11 (by rw [h]; rfl)) q1
  refine Ok.bind (P := fun p : List Qc => (p.length ≤ 5 ∧ (l.length ≤ 1 → p.length ≤ 4) ∧ (l.length = 0 → p.length ≤ 1)) ∧ ∀ f ∈ p,VF f) (Ok.ite (fun h => ?_) (fun _ => Ok.mk ⟨⟨by omega,fun _ => q2,q6⟩,q3⟩)) fun fs hfs => ?_
  ·simp only [Bool.and_eq_true,decide_eq_true_eq] at h
   refine Ok.idx (by decide) (by omega) fun k0 hk0 _ => Ok.rm (by simp; omega) (Ok.mk ⟨⟨by simp; omega,fun h1 => by omega,fun h1 => by omega⟩,?_⟩)
   intro x hx
   rcases List.mem_append.1 hx with hx | hx
   ·exact q3 x hx
   ·rw [List.mem_singleton] at hx; subst hx; exact Qqr (by decide) (q5 k0 hk0).2.2.1 (by decide)
  ·refine (Qrn m11).bind fun r12 h12 => ?_
   obtain ⟨c1,c2,c3⟩ := h12
   obtain ⟨⟨f1,f3,f4⟩,f2⟩ := hfs
   refine Ok.rm (by omega) ?_
   refine Ok.take c3 (by decide) fun r13 m13 _ _ h13 => ?_
   have all7 : ∀ f ∈ fs ++ r12.1,VF f := fun x hx => (List.mem_append.1 hx).elim (f2 x) (c2 x)
   have len7 : (fs ++ r12.1).length ≤ 7 ∧ (l.length ≤ 1 → (fs ++ r12.1).length ≤ 6) ∧ (l.length = 0 → (fs ++ r12.1).length ≤ 3) := by
    rw [List.length_append]
    exact ⟨by omega,fun h => by have := f3 h; omega,fun h => by have := f4 h; omega⟩
   obtain ⟨len7,len6,len3⟩ := len7
   have eh : IntKind.i64.wrap (lo + r2) = lo + r2 := w64 (by omega) (by omega)
   refine Ok.bind (P := fun p : Qv × List Qc => MOk p.1 ∧ (p.2.length ≤ 9 ∧ (l.length ≤ 1 → p.2.length ≤ 8) ∧ (l.length = 0 → p.2.length ≤ 5)) ∧ ∀ f ∈ p.2,VF f) (Ok.ite (fun h => ?_) (fun _ => Ok.mk ⟨h13,⟨by dsimp only; omega,fun h => by have := len6 h; dsimp only; omega,fun h => by have := len3 h; dsimp only; omega⟩,all7⟩)) fun p52 hp52 => Ok.mk ⟨⟨⟨hp52.2.1.1,hp52.2.2,hsn,?_⟩,fun h => ⟨hp52.2.1.2.1 h,hp52.2.2,hsn,?_⟩,fun h => ⟨hp52.2.1.2.2 h,hp52.2.2,hsn,?_⟩⟩,hp52.1,q4,q5⟩
   rotate_left
   ·dsimp only; rw [eh]; omega
   ·dsimp only; rw [eh]; omega
   ·dsimp only; rw [eh]; omega
   refine (Qrn h13).bind fun r14 h14 => ?_
   obtain ⟨d1,d2,d3⟩ := h14
   refine Ok.opt (P := fun _ => True) (fun h => ?_) fun g _ => ?_
   ·have h' : (r14.1.length : Int) > 0 := by simpa using h
    exact (Ok.idx (by decide) (by omega) fun v _ _ => Ok.mk trivial : Ok ((idx r14.1 0).bind some) _).weak (fun _ h => h) |> fun h => by simpa using h
   refine Ok.opt (P := fun _ => True) (fun h => (QiE (by omega)).weak fun _ _ => trivial) fun g2 _ => ?_
   refine Ok.bind (P := fun p : List Qc => (p.length ≤ 9 ∧ (l.length ≤ 1 → p.length ≤ 8) ∧ (l.length = 0 → p.length ≤ 5)) ∧ ∀ f ∈ p,VF f) (Ok.ite (fun h => Ok.rm (by omega) (Ok.mk ⟨⟨by rw [List.length_append]; omega,fun h => by rw [List.length_append]; have := len6 h; omega,fun h => by rw [List.length_append]; have := len3 h; omega⟩,fun x hx => (List.mem_append.1 hx).elim (all7 x) (d2 x)⟩)) (fun _ => Ok.mk ⟨⟨by omega,fun h => by have := len6 h; omega,fun h => by have := len3 h; omega⟩,all7⟩)) fun p64 hp64 => Ok.mk ⟨d3,hp64.1,hp64.2⟩

end Go.Proofs.YtcdccjagknlmpaaGreatDoor

namespace Go.Proofs.YtcdccjagknlmpaaGreatDoor
open Go.Sim

theorem Qo7 {s : Str} (h : Q2 s = true) : ∀ c ∈ s,(QfF (c.toNat : Int) || Qks (c.toNat : Int)) = true := by
 unfold Q2 at h
 simp only [Bool.and_eq_true] at h
 intro c hc
 have h3 := h.2.2
 unfold QQ at h3
 rw [List.all_map] at h3
 exact List.all_eq_true.1 h3 c hc
theorem QlT {a r : Str} (ha : Q2 a = true) (hl : a.length ≤ 10) (hr : r.length = 1) (hm : ∀ c ∈ r,(QfF (c.toNat : Int) || Qks (c.toNat : Int)) = true) : Q2 (a ++ r) = true := by
 cases a with
 | nil => cases ha
 | cons b a =>
  have hall := Qo7 ha
  unfold Q2 at ha ⊢
  simp only [Bool.and_eq_true,List.cons_append] at ha ⊢
  refine ⟨QhU (by simp only [List.length_cons,List.length_append] at hl ⊢; omega),ha.2.1,?_⟩
  unfold QQ
  rw [List.all_map,List.all_eq_true]
  intro c hc
  rw [← List.cons_append] at hc
  rcases List.mem_append.1 hc with hc | hc
  ·exact hall c hc
  ·exact hm c hc
theorem Qwj {m : Qv} {k : Qi} (hm : MOk m) (hk : KV 9 k) : Ok (Qbl m k) (fun r => (r.2.1 = true → QeE r.1 = true) ∧ MOk r.2.2) := by
 unfold Qbl
 obtain ⟨k1,k2,ks,_⟩ := hk
 have kl := Qf6 ks
 have k0 : 1 ≤ k.Name.length := by
  unfold Q2 at ks
  simp only [Bool.and_eq_true] at ks
  have := (QcC ks.1).1
  omega
 refine (QiE (by omega)).bind fun a ha => (QiE (by omega)).bind fun b hb => ?_
 refine Ok.opt (P := fun r : Int × Qv => MOk r.2) (fun h => (Qd3 hm (by decide)).weak fun r h => h.2.2) fun r1 h1 => ?_
 have m1 : MOk (bif (decide (a ≥ (0:Int))) == true then r1.2 else m) := QdH (fun h => h1 (by rw [h]; rfl)) hm
 have nm : ∀ {β : Type} {Q : β → Prop} {f : Str → Option β},(∀ r : Str,r.length = 1 → (∀ c ∈ r,(QfF (c.toNat : Int) || Qks (c.toNat : Int)) = true) → Ok (f r) Q) → Ok ((sub k.Name 0 1).bind f) Q :=
  fun h => Ok.sub (by decide) (by decide) (by omega) fun r hr hrm => h r (by simpa using hr) fun c hc => Qo7 ks c (hrm c hc)
 have fin : ∀ {n a b : Str} {v : Int},Q2 n = true → ((a == []) || Q2 a) = true → ((b == []) || Q2 b) = true → (a ++ b != []) = true → -2000 ≤ v ∧ v ≤ 2000 → QeE ⟨n,k.Name,a,b,v⟩ = true := fun h1 h2 h3 h4 h5 => by
  unfold QeE
  simp only [h1,ks,h2,h3,h4,Bool.true_and,Bool.and_self]
  exact QhU (by omega)
 refine Ok.ite (fun _ => nm fun r hr hm => Ok.cat (by simp; omega) (Ok.take m1 (by decide) fun v m2 a2 b2 h2 => Ok.mk ⟨fun _ => ?_,h2⟩)) (fun _ => ?_)
 ·dsimp only
  rw [w64 (n := v - 2) (by omega) (by omega)]
  exact fin (QlT (by decide) (by decide) hr hm) (by decide) (by decide) (by decide) (by omega)
 refine Ok.ite (fun _ => Ok.mk ⟨fun h => (by cases h),m1⟩) (fun h => ?_)
 have hb0 : ¬ b < 0 := of_decide_eq_false h
 refine Ok.idx (by omega) hb.2 fun f hf _ => Ok.take m1 (by decide) fun r2 m2 _ _ h2 => ?_
 obtain ⟨_,_,hlo,hhi⟩ := k2 f hf
 refine Ok.ite (fun _ => nm fun r hr hm => Ok.cat (by simp; omega) (Ok.take h2 (by decide) fun v m2 a2 b2 h2 => Ok.mk ⟨fun _ => ?_,h2⟩)) (fun _ => nm fun r hr hm => Ok.cat (by simp; omega) (Ok.take h2 (by decide) fun v m2 a2 b2 h2 => Ok.mk ⟨fun _ => ?_,h2⟩))
 ·dsimp only
  rw [w64 (n := f.Lo + v) (by omega) (by omega)]
  exact fin (QlT (by decide) (by decide) hr hm) (by decide) (by decide) (by decide) (by omega)
 ·dsimp only
  rw [w64 (n := v - f.Hi) (by omega) (by omega)]
  exact fin (QlT (by decide) (by decide) hr hm) (by decide) (by decide) (by decide) (by omega)

/-- How many fields a kind may have, when so many kinds are made. -/
def bdN (n : Nat) : Nat := if n ≤ 1 then 5 else if n ≤ 2 then 8 else 9
theorem Quu {l : List Int} (hl : ∀ x ∈ l,I64 x) : Ok (QbY l) (fun x => Tiny x ∧ QfA x = true ∧ ∀ k ∈ x.Kinds,KV 9 k) := by
 unfold QbY
 refine Ok.sub (by decide) (by unfold imin; split <;> omega) (by unfold imin; split <;> omega) fun w _ hw => ?_
 have h0 : MOk (Qv.mk w 0) := fun x hx => hl x (hw x hx)
 refine Ok.take h0 (by decide) fun v m1 av bv h1 => Ok.take h1 (by decide) fun n m2 a2 b2 h2 => ?_
 have en : IntKind.i64.wrap (1 + n) = 1 + n := w64 (by omega) (by omega)
 refine Ok.bind (P := fun p : List Qi × Qv => p.1.length = 1 + n ∧ (∀ k ∈ p.1,KV 9 k) ∧ MOk p.2)
  (Ok.loop (fun k s => 0 ≤ s.1 ∧ s.1 + k = 1 + n ∧ s.2.1.length = s.1 ∧ (∀ q ∈ s.2.1,KV (bdN s.1.toNat) q) ∧ MOk s.2.2) (1 + n).toNat ⟨Int.le_refl _,by dsimp only; omega,by simp,by simp,h2⟩ fun k s hs => ?_) (fun p hp => ?_)
 ·obtain ⟨i,ks,m3⟩ := s
  obtain ⟨e1,e2,e3,e4,e5⟩ := hs
  dsimp only at e1 e2 e3 e4 e5
  have hbd : bdN i.toNat ≤ 9 := by unfold bdN; split <;> (try split) <;> omega
  refine Ok.ite (fun h => ?_) (fun h => ?_)
  ·have h' : i < 1 + n := by have := of_decide_eq_true h; rwa [en] at this
   refine (Qrp (N := bdN i.toNat) e5 (by omega) (by omega) e4).bind fun r hr => ?_
   obtain ⟨⟨r1,r5,r6⟩,r2,r3,r4⟩ := hr
   refine Ok.rm (by simp; omega) (Ok.mk ?_)
   have ei : IntKind.i64.wrap (i + 1) = i + 1 := w64 (by omega) (by omega)
   refine ⟨k - 1,by omega,?_⟩
   dsimp only
   rw [ei]
   refine ⟨by omega,by omega,by simp; omega,fun q hq => ?_,r2⟩
   have hi : i = 0 ∨ i = 1 ∨ i = 2 := by omega
   rcases List.mem_append.1 hq with hq | hq
   ·refine (r4 q hq).weak ?_
    rcases hi with rfl | rfl | rfl
    ·have : ks.length = 0 := by omega
     rw [List.length_eq_zero_iff.1 (by rw [r3,this] : r.2.2.length = 0)] at hq
     cases hq
    ·decide
    ·decide
   ·rw [List.mem_singleton] at hq; subst hq
    rcases hi with rfl | rfl | rfl
    ·exact r6 (by omega)
    ·exact r5 (by omega)
    ·exact r1
  ·have h' : ¬ i < 1 + n := by have := of_decide_eq_false h; rwa [en] at this
   refine Ok.mk ⟨by dsimp only; omega,fun q hq => (e4 q hq).weak hbd,e5⟩
 obtain ⟨p1,p2,p3⟩ := hp
 refine Ok.take p3 (by decide) fun t m4 a4 b4 h4 => ?_
 have et : IntKind.i64.wrap (2 + t) = 2 + t := w64 (by omega) (by omega)
 refine Ok.sub (by decide) (by dsimp only; rw [et]; omega) (by dsimp only; rw [et]; simp; omega) fun st hst hsm => ?_
 dsimp only at hst
 rw [et] at hst
 have hsl : 2 ≤ st.length ∧ st.length ≤ 4 := by omega
 have hsn : st.all Q2 = true := by
  rw [List.all_eq_true]
  intro s hs
  have := hsm s hs
  simp only [List.mem_cons,List.not_mem_nil,or_false] at this
  rcases this with rfl | rfl | rfl | rfl <;> decide
 have mv : ∀ {a b : Int},0 ≤ a ∧ a < st.length → 0 ≤ b ∧ b < st.length → QeQ (st.length : Int) ⟨a,b⟩ = true := fun h1 h2 => by
  unfold QeQ
  rw [QhU (by dsimp only; omega),QhU (by dsimp only; omega)]; rfl
 refine Ok.bind (P := fun p : List QK => p.length ≤ 3 ∧ ∀ m ∈ p,QeQ (st.length : Int) m = true) (Ok.loop (fun k s => 0 ≤ s.1 ∧ s.1 + 1 + k = st.length ∧ s.2.length = s.1 ∧ ∀ m ∈ s.2,QeQ (st.length : Int) m = true) (st.length - 1) ⟨Int.le_refl _,by dsimp only; omega,by simp,by simp⟩ fun k s hs => ?_) (fun mvs hmv => ?_)
 ·obtain ⟨i,ms⟩ := s
  obtain ⟨e1,e2,e3,e4⟩ := hs
  dsimp only at e1 e2 e3 e4
  have ei : IntKind.i64.wrap (i + 1) = i + 1 := w64 (by omega) (by omega)
  refine Ok.ite (fun h => ?_) (fun h => ?_)
  ·have h' : i + 1 < st.length := by have := of_decide_eq_true h; rwa [ei] at this
   refine Ok.rm (by simp; omega) (Ok.mk ⟨k - 1,by omega,?_⟩)
   dsimp only
   rw [ei]
   refine ⟨by omega,by omega,by simp; omega,fun q hq => ?_⟩
   rcases List.mem_append.1 hq with hq | hq
   ·exact e4 q hq
   ·rw [List.mem_singleton] at hq; subst hq; exact mv (by omega) (by omega)
  ·have h' : ¬ i + 1 < st.length := by have := of_decide_eq_false h; rwa [ei] at this
   exact Ok.mk ⟨by dsimp only; omega,e4⟩
 obtain ⟨hmv,hmm⟩ := hmv
 have addm : ∀ {ms : List QK} {m : QK},(∀ q ∈ ms,QeQ (st.length : Int) q = true) → QeQ (st.length : Int) m = true → ∀ q ∈ ms ++ [m],QeQ (st.length : Int) q = true := fun h1 h2 q hq => by
  rcases List.mem_append.1 hq with hq | hq
  ·exact h1 q hq
  ·rw [List.mem_singleton] at hq; subst hq; exact h2
 refine Ok.take h4 (by decide) fun r5 m5 _ _ h5 => ?_
 refine Ok.bind (P := fun p : List QK => p.length ≤ 4 ∧ ∀ m ∈ p,QeQ (st.length : Int) m = true) (Ok.ite (fun _ => Ok.rm (by simp; omega) (Ok.mk ⟨by simp; omega,addm hmm (mv (by omega) (by omega))⟩)) (fun _ => Ok.mk ⟨by omega,hmm⟩)) fun mv2 hmv2 => ?_
 obtain ⟨hmv2,hmm2⟩ := hmv2
 refine Ok.take h5 (by decide) fun r6 m6 _ _ h6 => ?_
 have es : IntKind.i64.wrap ((st.length : Int) - 1) = (st.length : Int) - 1 := w64 (by omega) (by omega)
 refine Ok.bind (P := fun p : List QK => p.length ≤ 5 ∧ ∀ m ∈ p,QeQ (st.length : Int) m = true) (Ok.ite (fun _ => Ok.rm (by simp; omega) (Ok.mk ⟨by simp; omega,by rw [es]; exact addm hmm2 (mv (by omega) (by omega))⟩)) (fun _ => Ok.mk ⟨by omega,hmm2⟩)) fun mv3 hmv3 => ?_
 obtain ⟨hmv3,hmm3⟩ := hmv3
 refine Ok.rm (by simp) ?_
 refine Ok.bind (P := fun p : List Qo => p.length ≤ 2 ∧ ∀ r ∈ p,QeE r = true) (Ok.loop (fun k s => 0 ≤ s.1 ∧ s.1 + k = 1 + n ∧ (s.2.1.length ≤ 2 ∧ ∀ r ∈ s.2.1,QeE r = true) ∧ MOk s.2.2) (1 + n).toNat ⟨Int.le_refl _,by dsimp only; omega,by simp,h6⟩ fun k s hs => ?_) (fun rs hrs => ?_)
 ·obtain ⟨i,rs,m7⟩ := s
  obtain ⟨e1,e2,e3,e4⟩ := hs
  dsimp only at e1 e2 e3 e4
  refine Ok.ite (fun h => ?_) (fun h => Ok.mk e3)
  simp only [Bool.and_eq_true,decide_eq_true_eq,en] at h
  refine Ok.idx e1 (by omega) fun q hq _ => (Qwj e4 (p2 q hq)).bind fun r hr => ?_
  refine Ok.bind (P := fun p : List Qo => p.length ≤ 2 ∧ ∀ r ∈ p,QeE r = true) (Ok.ite (fun hy => Ok.rm (by simp; omega) (Ok.mk ⟨by simp; omega,fun y hy2 => (List.mem_append.1 hy2).elim (e3.2 y) fun hy3 => by rw [List.mem_singleton] at hy3; subst hy3; exact hr.1 hy⟩)) (fun _ => Ok.mk e3)) fun rs2 hrs2 => Ok.mk ⟨k - 1,by omega,?_⟩
  dsimp only
  rw [w64 (n := i + 1) (by omega) (by omega)]
  exact ⟨by omega,by omega,hrs2,hr.2⟩
 ·refine Ok.mk ⟨⟨by dsimp only; omega,fun k hk f hf => ((p2 k hk).2.1 f hf).2.1,by simp,?_,hrs.1⟩,?_,p2⟩
  ·intro q hq
   simp only [List.nil_append,List.mem_singleton] at hq
   subst hq
   exact ⟨by dsimp only; omega,by dsimp only; omega⟩
  ·have hk : p.1.all QdS = true := by
    rw [List.all_eq_true]
    intro k hk
    obtain ⟨c1,c2,c3,c4⟩ := p2 k hk
    unfold QdS
    simp only [Bool.and_eq_true,decide_eq_true_eq,List.all_eq_true]
    exact ⟨⟨⟨c3,Qji c4⟩,by omega⟩,fun f hf => (c2 f hf).1⟩
   have hlf : Qgt ⟨[108,105,102,101],st,mv3⟩ = true := by
    unfold Qgt
    simp only [Bool.and_eq_true,decide_eq_true_eq]
    exact ⟨⟨⟨⟨by decide,QhU (by omega)⟩,hsn⟩,by omega⟩,List.all_eq_true.2 hmm3⟩
   unfold QfA
   simp only [Bool.and_eq_true,decide_eq_true_eq]
   refine ⟨⟨⟨⟨⟨⟨QhU (by omega),by omega⟩,by simp⟩,by have := hrs.1; omega⟩,hk⟩,?_⟩,List.all_eq_true.2 hrs.2⟩
   simp [hlf]

end Go.Proofs.YtcdccjagknlmpaaGreatDoor

namespace Go.Proofs.YtcdccjagknlmpaaGreatDoor
open Go.Sim

/-- The kinds that the generator makes, one after the other. -/
inductive QbA : List Ks → Prop
 | nil : QbA []
 | snoc {T : List Ks} {q : Ks} {T' : List Ks} (h : QbA T) (hl : T.length ≤ 2) (hn : QiH[T.length]? = some q.1) (hk : Qdx T q T') : QbA (T' ++ [q])
/-- The rules, each of another kind. -/
def QiI (K : List Qi) (i : Int) (R : List Qo) : Prop :=
 ∃ ps : List (Nat × Qo),ps.map Prod.snd = R ∧ (ps.map Prod.fst).Pairwise (· < ·) ∧ ∀ p ∈ ps,(p.1 : Int) < i ∧ ∃ k,K[p.1]? = some k ∧ QrT (ks k) p.2
theorem Quv {l : List Int} (hl : ∀ x ∈ l,I64 x) : Ok (QbY l) (fun x => (QbA (x.Kinds.map ks) ∧ (∀ k ∈ x.Kinds,k.Hi - k.Lo ≤ 29) ∧ 1 ≤ x.Kinds.length) ∧ (∃ L,x.Lives = [L] ∧ L.Name = [108,105,102,101]) ∧ ∃ n,QiI x.Kinds n x.Rules) := by
 unfold QbY
 refine Ok.sub (by decide) (by unfold imin; split <;> omega) (by unfold imin; split <;> omega) fun w _ hw => ?_
 have h0 : MOk (Qv.mk w 0) := fun x hx => hl x (hw x hx)
 refine Ok.take h0 (by decide) fun v m1 av bv h1 => Ok.take h1 (by decide) fun n m2 a2 b2 h2 => ?_
 have en : IntKind.i64.wrap (1 + n) = 1 + n := w64 (by omega) (by omega)
 refine Ok.bind (P := fun p : List Qi × Qv => (p.1.length = 1 + n ∧ (∀ k ∈ p.1,KV 9 k) ∧ MOk p.2) ∧ QbA (p.1.map ks) ∧ ∀ k ∈ p.1,k.Hi - k.Lo ≤ 29)
  (Ok.loop (fun k s => (0 ≤ s.1 ∧ s.1 + k = 1 + n ∧ s.2.1.length = s.1 ∧ (∀ q ∈ s.2.1,KV (bdN s.1.toNat) q) ∧ MOk s.2.2) ∧ QbA (s.2.1.map ks) ∧ ∀ k ∈ s.2.1,k.Hi - k.Lo ≤ 29) (1 + n).toNat ⟨⟨Int.le_refl _,by dsimp only; omega,by simp,by simp,h2⟩,QbA.nil,by simp⟩ fun k s hs => ?_) (fun p hp => ?_)
 ·obtain ⟨i,ks',m3⟩ := s
  obtain ⟨⟨e1,e2,e3,e4,e5⟩,e6,e7⟩ := hs
  dsimp only at e1 e2 e3 e4 e5 e6 e7
  have hbd : bdN i.toNat ≤ 9 := by unfold bdN; split <;> (try split) <;> omega
  refine Ok.ite (fun h => ?_) (fun h => ?_)
  ·have h' : i < 1 + n := by have := of_decide_eq_true h; rwa [en] at this
   refine (Ok.and (Qrp (N := bdN i.toNat) e5 (by omega) (by omega) e4) (kind_w (N := bdN i.toNat) e5 (by omega) (by omega) (fun q hq => (e4 q hq).1) e7)).bind fun r hr => ?_
   obtain ⟨⟨⟨r1,r5,r6⟩,r2,r3,r4⟩,⟨w1,w2⟩,⟨_,w3⟩,w4⟩ := hr
   refine Ok.rm (by simp; omega) (Ok.mk ?_)
   have ei : IntKind.i64.wrap (i + 1) = i + 1 := w64 (by omega) (by omega)
   refine ⟨k - 1,by omega,?_⟩
   dsimp only
   rw [ei]
   refine ⟨⟨by omega,by omega,by simp; omega,fun q hq => ?_,r2⟩,?_,fun q hq => ?_⟩
   ·have hi : i = 0 ∨ i = 1 ∨ i = 2 := by omega
    rcases List.mem_append.1 hq with hq | hq
    ·refine (r4 q hq).weak ?_
     rcases hi with rfl | rfl | rfl
     ·have : ks'.length = 0 := by omega
      rw [List.length_eq_zero_iff.1 (by rw [r3,this] : r.2.2.length = 0)] at hq
      cases hq
     ·decide
     ·decide
    ·rw [List.mem_singleton] at hq; subst hq
     rcases hi with rfl | rfl | rfl
     ·exact r6 (by omega)
     ·exact r5 (by omega)
     ·exact r1
   ·rw [List.map_append]
    exact QbA.snoc e6 (by rw [List.length_map]; omega) (by rw [List.length_map]; exact w1) w4
   ·rcases List.mem_append.1 hq with hq | hq
    ·exact w3 q hq
    ·rw [List.mem_singleton] at hq; subst hq; exact w2
  ·have h' : ¬ i < 1 + n := by have := of_decide_eq_false h; rwa [en] at this
   exact Ok.mk ⟨⟨by dsimp only; omega,fun q hq => (e4 q hq).weak hbd,e5⟩,e6,e7⟩
 obtain ⟨⟨p1,p2,p3⟩,p4,p5⟩ := hp
 refine Ok.take p3 (by decide) fun t m4 a4 b4 h4 => ?_
 have et : IntKind.i64.wrap (2 + t) = 2 + t := w64 (by omega) (by omega)
 refine Ok.sub (by decide) (by dsimp only; rw [et]; omega) (by dsimp only; rw [et]; simp; omega) fun st hst hsm => ?_
 dsimp only at hst
 rw [et] at hst
 have hsl : 2 ≤ st.length ∧ st.length ≤ 4 := by omega
 refine Ok.bind (P := fun p : List QK => p.length ≤ 3) (Ok.loop (fun k s => 0 ≤ s.1 ∧ s.1 + 1 + k = st.length ∧ s.2.length = s.1) (st.length - 1) ⟨Int.le_refl _,by dsimp only; omega,by simp⟩ fun k s hs => ?_) (fun mvs hmv => ?_)
 ·obtain ⟨i,ms⟩ := s
  obtain ⟨e1,e2,e3⟩ := hs
  dsimp only at e1 e2 e3
  have ei : IntKind.i64.wrap (i + 1) = i + 1 := w64 (by omega) (by omega)
  refine Ok.ite (fun h => ?_) (fun h => ?_)
  ·have h' : i + 1 < st.length := by have := of_decide_eq_true h; rwa [ei] at this
   refine Ok.rm (by simp; omega) (Ok.mk ⟨k - 1,by omega,?_⟩)
   dsimp only
   rw [ei]
   exact ⟨by omega,by omega,by simp; omega⟩
  ·have h' : ¬ i + 1 < st.length := by have := of_decide_eq_false h; rwa [ei] at this
   exact Ok.mk (by dsimp only; omega)
 refine Ok.take h4 (by decide) fun r5 m5 _ _ h5 => ?_
 refine Ok.bind (P := fun p : List QK => p.length ≤ 4) (Ok.ite (fun _ => Ok.rm (by simp; omega) (Ok.mk (by simp; omega))) (fun _ => Ok.mk (by omega))) fun mv2 hmv2 => ?_
 refine Ok.take h5 (by decide) fun r6 m6 _ _ h6 => ?_
 refine Ok.bind (P := fun p : List QK => p.length ≤ 5) (Ok.ite (fun _ => Ok.rm (by simp; omega) (Ok.mk (by simp; omega))) (fun _ => Ok.mk (by omega))) fun mv3 hmv3 => ?_
 refine Ok.rm (by simp) ?_
 refine Ok.bind (P := fun R : List Qo => ∃ n,QiI p.1 n R) (Ok.loop (fun k s => 0 ≤ s.1 ∧ s.1 + k = 1 + n ∧ (s.2.1.length ≤ 2 ∧ QiI p.1 s.1 s.2.1) ∧ MOk s.2.2) (1 + n).toNat ⟨Int.le_refl _,by dsimp only; omega,⟨by simp,[],rfl,by simp,by simp⟩,h6⟩ fun k s hs => ?_) (fun rs hrs => ?_)
 ·obtain ⟨i,rs,m7⟩ := s
  obtain ⟨e1,e2,e3,e4⟩ := hs
  dsimp only at e1 e2 e3 e4
  refine Ok.ite (fun h => ?_) (fun h => Ok.mk ⟨i,e3.2⟩)
  simp only [Bool.and_eq_true,decide_eq_true_eq,en] at h
  refine Ok.idx e1 (by omega) fun q hq eq => ?_
  obtain ⟨k1,_,ksn,_⟩ := p2 q hq
  have kl := Qf6 ksn
  have k0 : 1 ≤ q.Name.length := by
   unfold Q2 at ksn
   simp only [Bool.and_eq_true] at ksn
   have := (QcC ksn.1).1
   omega
  refine (rule_w e4 (by omega) k0 (by omega)).bind fun r hr => ?_
  have wk : QiI p.1 (i + 1) rs := by
   obtain ⟨ps,g1,g2,g3⟩ := e3.2
   exact ⟨ps,g1,g2,fun z hz => ⟨by have := (g3 z hz).1; omega,(g3 z hz).2⟩⟩
  refine Ok.bind (P := fun R : List Qo => R.length ≤ 2 ∧ QiI p.1 (i + 1) R) (Ok.ite (fun hy => Ok.rm (by simp; omega) (Ok.mk ⟨by simp; omega,?_⟩)) (fun _ => Ok.mk ⟨e3.1,wk⟩)) fun rs2 hrs2 => Ok.mk ⟨k - 1,by omega,?_⟩
  ·obtain ⟨ps,g1,g2,g3⟩ := e3.2
   refine ⟨ps ++ [(i.toNat,r.1)],by rw [List.map_append,g1]; rfl,?_,fun z hz => ?_⟩
   ·rw [List.map_append,List.pairwise_append]
    refine ⟨g2,by simp,fun a ha b hb => ?_⟩
    obtain ⟨z,hz,rfl⟩ := List.mem_map.1 ha
    simp only [List.map_cons,List.map_nil,List.mem_singleton] at hb
    subst hb
    have := (g3 z hz).1
    omega
   ·rcases List.mem_append.1 hz with hz | hz
    ·exact ⟨by have := (g3 z hz).1; omega,(g3 z hz).2⟩
    ·rw [List.mem_singleton] at hz; subst hz
     exact ⟨by dsimp only; omega,q,eq,hr.1 hy⟩
  ·dsimp only
   rw [w64 (n := i + 1) (by omega) (by omega)]
   exact ⟨by omega,by omega,hrs2,hr.2⟩
 ·exact Ok.mk ⟨⟨p4,p5,by dsimp only; omega⟩,⟨_,rfl,rfl⟩,hrs⟩

end Go.Proofs.YtcdccjagknlmpaaGreatDoor

namespace Go.Proofs.YtcdccjagknlmpaaGreatDoor
open Go.Sim

theorem Qwk {T : List Ks} {i : Nat} {t : Ks} {F : List Sg} (h : T[i]? = some t) : (T.set i (t.1,F)).map Prod.fst = T.map Prod.fst := by
 rw [List.map_set]
 refine List.ext_getElem? fun j => ?_
 rw [List.getElem?_set]
 split
 ·rename_i e
  subst e
  have hi : i < T.length := (List.getElem?_eq_some_iff.1 h).1
  rw [if_pos (by simpa using hi),List.getElem?_map,h]
  rfl
 ·rfl
/-- A new kind leaves the earlier ones' names. -/
theorem Qdx.names {T : List Ks} {q : Ks} {T' : List Ks} (h : Qdx T q T') : T'.map Prod.fst = T.map Prod.fst := by
 obtain ⟨F,by',p1,p2,hp,_⟩ := h
 rcases hp with ⟨_,_,rfl⟩ | ⟨to,t,cp,pt,ht,_,_,h⟩
 ·rfl
 ·rcases h with ⟨_,rfl⟩ | ⟨_,_,rfl⟩
  ·rfl
  ·exact Qwk ht
/-- The kinds' names. -/
theorem QbA.names {T : List Ks} (h : QbA T) : T.length ≤ 3 ∧ T.map Prod.fst = QiH.take T.length := by
 induction h with
 | nil => exact ⟨by decide,rfl⟩
 | @snoc T q T' h hl hn hk ih =>
  have e := hk.names
  have el : T'.length = T.length := by simpa using congrArg List.length e
  rw [List.length_append,el]
  refine ⟨by simpa using hl,?_⟩
  rw [List.map_append,e,ih.2]
  simp only [List.length_cons,List.length_nil,Nat.zero_add]
  rw [List.take_add_one,hn]
  rfl

/-! The names of a kind's fields. -/

def presN : List (List Str) := [[sId.1],[sId.1,nOf],[sId.1,nOf,(Qi9 []).1],[sId.1,nOf,QhV.1],[sId.1,nOf,(Qi9 []).1,QhV.1]]
def bysN : List (List Str) := [[],[(sBy []).1]]
def Qmn : List (List Str) := Qa4.map fun p => p.map Prod.fst
def Qqt (l d : List Str) : Bool := match d with | [] => true | g :: _ => !(l.contains g)
set_option maxRecDepth 100000 in
set_option maxHeartbeats 4000000 in
theorem Qto : (presN.all fun a => bysN.all fun b => Qmn.all fun c => Qmn.all fun d => !Qqt (a ++ b ++ c) d || (decide (a ++ b ++ c ++ d).Nodup && !((a ++ b ++ c ++ d).contains QgP))) = true := by decide +kernel
theorem PreS.names {T : List Ks} {nm : Str} {F : List Sg} {T' : List Ks} (h : PreS T nm F T') : F.map Prod.fst ∈ presN := by
 rcases h with ⟨_,rfl,_⟩ | ⟨to,t,cp,pt,_,rfl,hc,hp⟩
 ·decide
 ·rcases hc with rfl | ⟨g,_,_,rfl⟩ <;> rcases hp with ⟨rfl,_⟩ | ⟨_,rfl,_⟩
  ·exact List.mem_cons_of_mem _ (List.mem_cons_self ..)
  ·exact List.mem_cons_of_mem _ (List.mem_cons_of_mem _ (List.mem_cons_of_mem _ (List.mem_cons_self ..)))
  ·exact List.mem_cons_of_mem _ (List.mem_cons_of_mem _ (List.mem_cons_self ..))
  ·exact List.mem_cons_of_mem _ (List.mem_cons_of_mem _ (List.mem_cons_of_mem _ (List.mem_cons_of_mem _ (List.mem_cons_self ..))))
/-- A new kind's fields have different names, none is 'total'. -/
theorem Qdx.nodup {T : List Ks} {q : Ks} {T' : List Ks} (h : Qdx T q T') : (q.2.map Prod.fst).Nodup ∧ QgP ∉ q.2.map Prod.fst := by
 obtain ⟨F,by',p1,p2,hp,hb,h1,h2,e⟩ := h
 have hb' : by'.map Prod.fst ∈ bysN := by
  rcases hb with rfl | ⟨_,t,_,rfl⟩
  ·exact List.mem_cons_self ..
  ·exact List.mem_cons_of_mem _ (List.mem_cons_self ..)
 have h1' : p1.map Prod.fst ∈ Qmn := List.mem_map_of_mem h1
 have h2' : p2.map Prod.fst ∈ Qmn := by
  rcases h2 with rfl | ⟨h2,_⟩
  ·decide
  ·exact List.mem_map_of_mem h2
 have hf : Qqt (F.map Prod.fst ++ by'.map Prod.fst ++ p1.map Prod.fst) (p2.map Prod.fst) = true := by
  rcases h2 with rfl | ⟨_,h2⟩
  ·rfl
  ·cases p2 with
   | nil => rfl
   | cons g r =>
    unfold Qqt
    simp only [List.map_cons,Bool.not_eq_true',← List.map_append]
    rw [List.contains_eq_mem,decide_eq_false_iff_not]
    intro hm
    obtain ⟨f,hf,e⟩ := List.mem_map.1 hm
    exact h2 g rfl f hf e
 have := List.all_eq_true.1 (List.all_eq_true.1 (List.all_eq_true.1 (List.all_eq_true.1 Qto _ hp.names) _ hb') _ h1') _ h2'
 rw [hf] at this
 simp only [Bool.not_true,Bool.false_or,Bool.and_eq_true,decide_eq_true_eq,Bool.not_eq_true',List.contains_eq_mem,decide_eq_false_iff_not] at this
 rw [e]
 simp only [List.map_append]
 exact this

/-- The first field is the key, and the only one. -/
def Qtp (l : List Sg) : Prop := ∃ r,l = sId :: r ∧ ∀ f ∈ r,f.2.1 ≠ 0
theorem Qoz : (Qa4.all fun p => p.all fun f => decide (f.2.1 ≠ 0)) = true := by decide +kernel
theorem Qk8 {p : List Sg} (h : p ∈ Qa4) : ∀ f ∈ p,f.2.1 ≠ 0 := fun f hf => by
 have := List.all_eq_true.1 (List.all_eq_true.1 Qoz p h) f hf
 simpa using this
theorem Qdx.headed {T : List Ks} {q : Ks} {T' : List Ks} (h : Qdx T q T') : Qtp q.2 := by
 obtain ⟨F,by',p1,p2,hp,hb,h1,h2,e⟩ := h
 have hF : ∃ r,F = sId :: r ∧ ∀ f ∈ r,f.2.1 ≠ 0 := by
  rcases hp with ⟨_,rfl,_⟩ | ⟨to,t,cp,pt,_,rfl,hc,hp⟩
  ·exact ⟨[],rfl,by simp⟩
  ·refine ⟨_,rfl,fun f hf => ?_⟩
   rcases List.mem_cons.1 hf with rfl | hf
   ·show (1:Int) ≠ 0; decide
   ·rcases List.mem_append.1 hf with hf | hf
    ·rcases hc with rfl | ⟨g,_,_,rfl⟩
     ·cases hf
     ·rw [List.mem_singleton] at hf; subst hf; show (8:Int) ≠ 0; decide
    ·rcases hp with ⟨rfl,_⟩ | ⟨_,rfl,_⟩
     ·cases hf
     ·rw [List.mem_singleton] at hf; subst hf; show (7:Int) ≠ 0; decide
 obtain ⟨r,rfl,hr⟩ := hF
 refine ⟨r ++ by' ++ p1 ++ p2,by rw [e]; simp,fun f hf => ?_⟩
 rcases List.mem_append.1 hf with hf | hf
 ·rcases List.mem_append.1 hf with hf | hf
  ·rcases List.mem_append.1 hf with hf | hf
   ·exact hr f hf
   ·rcases hb with rfl | ⟨_,t,_,rfl⟩
    ·cases hf
    ·rw [List.mem_singleton] at hf; subst hf; show (1:Int) ≠ 0; decide
  ·exact Qk8 h1 f hf
 ·rcases h2 with rfl | ⟨h2,_⟩
  ·cases hf
  ·exact Qk8 h2 f hf
/-- All kinds: the fields' names are different, the first field is the key and the only one. -/
theorem QbA.fields {T : List Ks} (h : QbA T) : ∀ q ∈ T,(q.2.map Prod.fst).Nodup ∧ Qtp q.2 := by
 induction h with
 | nil => intro q hq; cases hq
 | @snoc T q T' h hl hn hk ih =>
  intro z hz
  rcases List.mem_append.1 hz with hz | hz
  ·obtain ⟨F,by',p1,p2,hp,_⟩ := hk
   rcases hp with ⟨_,_,rfl⟩ | ⟨to,t,cp,pt,ht,_,_,hp⟩
   ·exact ih z hz
   ·rcases hp with ⟨_,rfl⟩ | ⟨hno,_,rfl⟩
    ·exact ih z hz
    ·rcases List.mem_or_eq_of_mem_set hz with hz | rfl
     ·exact ih z hz
     ·obtain ⟨i1,r,i2,i3⟩ := ih t (List.mem_of_getElem? ht)
      refine ⟨?_,r ++ [QhW q.1],?_,fun f hf => ?_⟩
      ·dsimp only
       rw [List.map_append,List.nodup_append]
       refine ⟨i1,by simp,fun a ha b hb => ?_⟩
       obtain ⟨g,hg,rfl⟩ := List.mem_map.1 ha
       simp only [List.map_cons,List.map_nil,List.mem_singleton] at hb
       subst hb
       exact hno g hg
      ·dsimp only
       rw [i2]; rfl
      ·rcases List.mem_append.1 hf with hf | hf
       ·exact i3 f hf
       ·rw [List.mem_singleton] at hf; subst hf; show (6:Int) ≠ 0; decide
  ·rw [List.mem_singleton] at hz; subst hz
   exact ⟨hk.nodup.1,hk.headed⟩

theorem QbA.name_at {T : List Ks} (h : QbA T) {i : Nat} {q : Ks} (e : T[i]? = some q) : QiH[i]? = some q.1 := by
 have e1 : (T.map Prod.fst)[i]? = some q.1 := by rw [List.getElem?_map,e]; rfl
 rw [h.names.2,List.getElem?_take] at e1
 split at e1
 ·exact e1
 ·cases e1
theorem QkC : (Qa4.all fun p => p.all fun f => decide (f.2.1 ≠ 1)) = true := by decide +kernel
/-- References go to earlier kinds. -/
def RefsS (i : Nat) (l : List Sg) : Prop := ∀ f ∈ l,f.2.1 = 1 → ∃ t : Nat,t < i ∧ QiH[t]? = some f.2.2.1
theorem Qdx.refs {T : List Ks} {q : Ks} {T' : List Ks} (c : QbA T) (h : Qdx T q T') : RefsS T.length q.2 := by
 have hn := h.names
 obtain ⟨F,by',p1,p2,hp,hb,h1,h2,e⟩ := h
 have pl : ∀ {p : List Sg},p ∈ Qa4 → ∀ f ∈ p,f.2.1 ≠ 1 := fun h f hf => by
  have := List.all_eq_true.1 (List.all_eq_true.1 QkC _ h) f hf
  simpa using this
 intro f hf hk
 rw [e] at hf
 rcases List.mem_append.1 hf with hf | hf
 ·rcases List.mem_append.1 hf with hf | hf
  ·rcases List.mem_append.1 hf with hf | hf
   ·rcases hp with ⟨_,rfl,_⟩ | ⟨to,t,cp,pt,ht,rfl,hc,hp⟩
    ·rw [List.mem_singleton] at hf; subst hf; exact absurd hk (by decide)
    ·rcases List.mem_cons.1 hf with rfl | hf
     ·exact absurd hk (by decide)
     ·rcases List.mem_cons.1 hf with rfl | hf
      ·exact ⟨to,(List.getElem?_eq_some_iff.1 ht).1,c.name_at ht⟩
      ·rcases List.mem_append.1 hf with hf | hf
       ·rcases hc with rfl | ⟨g,_,_,rfl⟩
        ·cases hf
        ·rw [List.mem_singleton] at hf; subst hf; exact absurd (show (8:Int) = 1 from hk) (by decide)
       ·rcases hp with ⟨rfl,_⟩ | ⟨_,rfl,_⟩
        ·cases hf
        ·rw [List.mem_singleton] at hf; subst hf; exact absurd hk (by decide)
   ·rcases hb with rfl | ⟨hl,t,ht,rfl⟩
    ·cases hf
    ·rw [List.mem_singleton] at hf; subst hf
     have e0 : T.map Prod.fst = T'.map Prod.fst := hn.symm
     have e1 : (T'.map Prod.fst)[0]? = some t.1 := by rw [List.getElem?_map,ht]; rfl
     rw [← e0,List.getElem?_map] at e1
     cases h0 : T[0]? with
     | none => rw [h0] at e1; cases e1
     | some z =>
      rw [h0] at e1
      have := c.name_at h0
      exact ⟨0,by omega,this.trans e1⟩
  ·exact absurd hk (pl h1 f hf)
 ·rcases h2 with rfl | ⟨h2,_⟩
  ·cases hf
  ·exact absurd hk (pl h2 f hf)

theorem QbA.refs {T : List Ks} (h : QbA T) : ∀ (i : Nat) (q : Ks),T[i]? = some q → RefsS i q.2 := by
 induction h with
 | nil => intro i q h; simp at h
 | @snoc T q T' h hl hn hk ih =>
  intro i z hz
  have el : T'.length = T.length := by simpa using congrArg List.length hk.names
  by_cases hi : i < T'.length
  ·rw [List.getElem?_append_left hi] at hz
   obtain ⟨F,by',p1,p2,hp,_⟩ := hk
   rcases hp with ⟨_,_,rfl⟩ | ⟨to,t,cp,pt,ht,_,_,hp⟩
   ·exact ih i z hz
   ·rcases hp with ⟨_,rfl⟩ | ⟨hno,_,rfl⟩
    ·exact ih i z hz
    ·rw [List.getElem?_set] at hz
     split at hz
     ·rename_i e
      subst e
      split at hz
      ·cases hz
       intro f hf hk1
       rcases List.mem_append.1 hf with hf | hf
       ·exact ih _ t ht f hf hk1
       ·rw [List.mem_singleton] at hf; subst hf; exact absurd (show (6:Int) = 1 from hk1) (by decide)
      ·cases hz
     ·exact ih i z hz
  ·rw [List.getElem?_append_right (by omega)] at hz
   have e0 : i - T'.length = 0 := by
    cases hd : i - T'.length with
    | zero => rfl
    | succ n => rw [hd] at hz; simp at hz
   rw [e0] at hz
   cases hz
   rw [show i = T.length by omega]
   exact hk.refs h

theorem QnY : (Qa4.all fun p => p.all fun f => decide (f.2.1 ≠ 6 ∧ f.2.1 ≠ 7 ∧ f.2.1 ≠ 8)) = true := by decide +kernel
/-- What a share or a copy of a new kind leads to. -/
theorem Qdx.links {T : List Ks} {q : Ks} {T' : List Ks} (h : Qdx T q T') : ∀ f ∈ q.2,f.2.1 ≠ 6 ∧ (f.2.1 = 7 ∨ f.2.1 = 8 → ∃ (to : Nat) (t : Ks),T[to]? = some t ∧ q.2[1]? = some (sOf t.1) ∧
  ((f = QhV ∧ T'[to]? = some (t.1,t.2 ++ [QhW q.1])) ∨ ∃ g ∈ t.2,(g.2.1 ≠ 0 ∧ g.2.1 ≠ 1 ∧ g.2.1 ≠ 6 ∧ g.2.1 ≠ 7) ∧ f = Qi9 g.1)) := by
 obtain ⟨F,by',p1,p2,hp,hb,h1,h2,e⟩ := h
 have pl : ∀ {p : List Sg},p ∈ Qa4 → ∀ f ∈ p,f.2.1 ≠ 6 ∧ f.2.1 ≠ 7 ∧ f.2.1 ≠ 8 := fun h f hf => by
  have := List.all_eq_true.1 (List.all_eq_true.1 QnY _ h) f hf
  simpa using this
 have no : ∀ f : Sg,f.2.1 ≠ 6 ∧ f.2.1 ≠ 7 ∧ f.2.1 ≠ 8 → f.2.1 ≠ 6 ∧ (f.2.1 = 7 ∨ f.2.1 = 8 → ∃ (to : Nat) (t : Ks),T[to]? = some t ∧ q.2[1]? = some (sOf t.1) ∧
  ((f = QhV ∧ T'[to]? = some (t.1,t.2 ++ [QhW q.1])) ∨ ∃ g ∈ t.2,(g.2.1 ≠ 0 ∧ g.2.1 ≠ 1 ∧ g.2.1 ≠ 6 ∧ g.2.1 ≠ 7) ∧ f = Qi9 g.1)) := fun f h => ⟨h.1,fun h' => by omega⟩
 intro f hf
 rw [e] at hf
 rcases List.mem_append.1 hf with hf | hf
 ·rcases List.mem_append.1 hf with hf | hf
  ·rcases List.mem_append.1 hf with hf | hf
   ·rcases hp with ⟨_,rfl,_⟩ | ⟨to,t,cp,pt,ht,rfl,hc,hp⟩
    ·rw [List.mem_singleton] at hf; subst hf; exact no _ (by decide)
    ·have h1 : q.2[1]? = some (sOf t.1) := by rw [e]; rfl
     rcases List.mem_cons.1 hf with rfl | hf
     ·exact no _ (by decide)
     ·rcases List.mem_cons.1 hf with rfl | hf
      ·exact no _ ⟨show (1:Int) ≠ 6 by decide,show (1:Int) ≠ 7 by decide,show (1:Int) ≠ 8 by decide⟩
      ·rcases List.mem_append.1 hf with hf | hf
       ·rcases hc with rfl | ⟨g,hg,hk,rfl⟩
        ·cases hf
        ·rw [List.mem_singleton] at hf; subst hf
         exact ⟨show (8:Int) ≠ 6 by decide,fun _ => ⟨to,t,ht,h1,.inr ⟨g,hg,hk,rfl⟩⟩⟩
       ·rcases hp with ⟨rfl,_⟩ | ⟨_,rfl,rfl⟩
        ·cases hf
        ·rw [List.mem_singleton] at hf; subst hf
         refine ⟨by decide,fun _ => ⟨to,t,ht,h1,.inl ⟨rfl,?_⟩⟩⟩
         rw [List.getElem?_set,if_pos rfl,if_pos (List.getElem?_eq_some_iff.1 ht).1]
   ·rcases hb with rfl | ⟨_,t,_,rfl⟩
    ·cases hf
    ·rw [List.mem_singleton] at hf; subst hf
     exact no _ ⟨show (1:Int) ≠ 6 by decide,show (1:Int) ≠ 7 by decide,show (1:Int) ≠ 8 by decide⟩
  ·exact no _ (pl h1 f hf)
 ·rcases h2 with rfl | ⟨h2,_⟩
  ·cases hf
  ·exact no _ (pl h2 f hf)

end Go.Proofs.YtcdccjagknlmpaaGreatDoor

namespace Go.Proofs.YtcdccjagknlmpaaGreatDoor
open Go.Sim

def QnZ : Str := [108,105,102,101]
/-- A day of another day comes behind it. -/
def Qmo (l : List Sg) : Prop := ∀ (j : Nat) (f : Sg),l[j]? = some f → f.2.1 = 4 → f.2.2.1 = [] ∨ ∃ (i : Nat) (g : Sg),i < j ∧ l[i]? = some g ∧ g.1 = f.2.2.1 ∧ g.2.1 = 4
theorem Qip {α : Type} {l r : List α} {i : Nat} {a : α} (h : l[i]? = some a) : (l ++ r)[i]? = some a := by
 rw [List.getElem?_append_left (List.getElem?_eq_some_iff.1 h).1]
 exact h
theorem Qmo.append {a b : List Sg} (ha : Qmo a) (hb : Qmo b) : Qmo (a ++ b) := by
 intro j f hj hk
 by_cases h : j < a.length
 ·rw [List.getElem?_append_left h] at hj
  rcases ha j f hj hk with h' | ⟨i,g,hi,hg,r⟩
  ·exact .inl h'
  ·exact .inr ⟨i,g,hi,Qip hg,r⟩
 ·rw [List.getElem?_append_right (by omega)] at hj
  rcases hb _ f hj hk with h' | ⟨i,g,hi,hg,r⟩
  ·exact .inl h'
  ·exact .inr ⟨a.length + i,g,by omega,by rw [List.getElem?_append_right (by omega),Nat.add_sub_cancel_left]; exact hg,r⟩
theorem Qf8 {l : List Sg} (h : ∀ f ∈ l,f.2.1 ≠ 4) : Qmo l := fun _ f hj hk => absurd hk (h f (List.mem_of_getElem? hj))
/-- Kinds are from 0 to 8; steps are of the one life; certain names are Nums. -/
def fokB (f : Sg) : Bool := (decide (0 ≤ f.2.1) && decide (f.2.1 ≤ 8)) && ((!(f.2.1 == 5) || f.2.2.1 == QnZ) && (!((f.1 == nLow || f.1 == Qk5) || f.1 == Qmm) || f.2.1 == 2))
def LowS (l : List Sg) : Prop := (∃ f ∈ l,f.1 = nLow) → ∃ f ∈ l,f.1 = Qk5
structure Qet (l : List Sg) : Prop where
 days : Qmo l
 fok : ∀ f ∈ l,fokB f = true
 low : LowS l
theorem Qet.append {a b : List Sg} (ha : Qet a) (hb : Qet b) : Qet (a ++ b) where
 days := ha.days.append hb.days
 fok f hf := (List.mem_append.1 hf).elim (ha.fok f) (hb.fok f)
 low := fun ⟨f,hf,e⟩ => by
  rcases List.mem_append.1 hf with hf | hf
  ·obtain ⟨g,hg,e⟩ := ha.low ⟨f,hf,e⟩
   exact ⟨g,List.mem_append_left _ hg,e⟩
  ·obtain ⟨g,hg,e⟩ := hb.low ⟨f,hf,e⟩
   exact ⟨g,List.mem_append_right _ hg,e⟩
theorem QjQ : Qet [] := ⟨Qf8 (by simp),by simp,fun ⟨_,h,_⟩ => by cases h⟩
theorem Qhj {f : Sg} (h4 : f.2.1 ≠ 4) (hf : fokB f = true) (hl : f.1 ≠ nLow) : Qet [f] := by
 refine ⟨Qf8 fun g hg => ?_,fun g hg => ?_,fun ⟨g,hg,e⟩ => ?_⟩ <;> rw [List.mem_singleton] at hg <;> subst hg
 ·exact h4
 ·exact hf
 ·exact absurd e hl
theorem QrU : (Qa4.all fun p => p.all fokB) = true := by decide +kernel
theorem QlU : ∀ p ∈ Qa4,Qet p := by
 intro p hp
 refine ⟨?_,List.all_eq_true.1 (List.all_eq_true.1 QrU p hp),?_⟩
 ·simp only [Qa4,List.mem_cons,List.not_mem_nil,or_false] at hp
  rcases hp with rfl | rfl | rfl | rfl | rfl | rfl
  ·exact Qf8 (by simp)
  ·exact Qf8 (by decide)
  ·exact Qf8 (by decide)
  ·intro j f hj _
   match j,hj with
   | 0,hj => cases hj; exact .inl rfl
   | 1,hj => cases hj; exact .inr ⟨0,QrS,by decide,rfl,rfl,rfl⟩
  ·exact Qf8 (by decide)
  ·exact Qf8 (by decide)
 ·have key : (Qa4.all fun p => !(p.any fun f => f.1 == nLow) || (p.any fun f => f.1 == Qk5)) = true := by decide +kernel
  have := List.all_eq_true.1 key p hp
  rintro ⟨f,hf,e⟩
  have h1 : (p.any fun f => f.1 == nLow) = true := List.any_eq_true.2 ⟨f,hf,by simpa using e⟩
  rw [h1] at this
  obtain ⟨g,hg,e⟩ := List.any_eq_true.1 (show (p.any fun f => f.1 == Qk5) = true by simpa using this)
  exact ⟨g,hg,by simpa using e⟩
theorem Qdx.piece {T : List Ks} {q : Ks} {T' : List Ks} (h : Qdx T q T') : Qet q.2 := by
 obtain ⟨F,by',p1,p2,hp,hb,h1,h2,e⟩ := h
 rw [e]
 have o1 : Qet [sId] := Qhj (by decide) (by decide) (by decide)
 refine ((Qet.append ?_ ?_).append (QlU p1 h1)).append (h2.elim (fun h => h ▸ QjQ) fun h => QlU p2 h.1)
 ·rcases hp with ⟨_,rfl,_⟩ | ⟨to,t,cp,pt,_,rfl,hc,hp⟩
  ·exact o1
  ·refine o1.append (b := sOf t.1 :: (cp ++ pt)) ((Qhj (f := sOf t.1) (show (1:Int) ≠ 4 by decide) rfl (show nOf ≠ nLow by decide)).append (b := cp ++ pt) (Qet.append ?_ ?_))
   ·rcases hc with rfl | ⟨g,_,_,rfl⟩
    ·exact QjQ
    ·exact Qhj (show (8:Int) ≠ 4 by decide) rfl (show ([115,97,109,101] : Str) ≠ nLow by decide)
   ·rcases hp with ⟨rfl,_⟩ | ⟨_,rfl,_⟩
    ·exact QjQ
    ·exact Qhj (by decide) (by decide) (by decide)
 ·rcases hb with rfl | ⟨_,t,_,rfl⟩
  ·exact QjQ
  ·exact Qhj (show (1:Int) ≠ 4 by decide) rfl (show ([98,121] : Str) ≠ nLow by decide)

def Right (h : Sg) : Prop := h.2.1 ≠ 0 ∧ h.2.1 ≠ 1 ∧ h.2.1 ≠ 6 ∧ h.2.1 ≠ 7
/-- What holds of a kind's fields, among all kinds. -/
structure FInv (T : List Ks) (k : Nat) (q : Ks) : Prop where
 piece : Qet q.2
 k7 : ∀ f ∈ q.2,f.2.1 = 7 → f = QhV ∧ ∃ (to : Nat) (t : Ks),to < k ∧ T[to]? = some t ∧ q.2[1]? = some (sOf t.1) ∧ QhW q.1 ∈ t.2
 k8 : ∀ f ∈ q.2,f.2.1 = 8 → ∃ (n : Str) (to : Nat) (t : Ks),f = Qi9 n ∧ to < k ∧ T[to]? = some t ∧ q.2[1]? = some (sOf t.1) ∧ ∃ h ∈ t.2,h.1 = n ∧ Right h
 k6 : ∀ f ∈ q.2,f.2.1 = 6 → ∃ (o : Nat) (p : Ks),f = QhW p.1 ∧ k < o ∧ T[o]? = some p ∧ QhV ∈ p.2 ∧ p.2[1]? = some (sOf q.1)
def Ext (T U : List Ks) : Prop := ∀ (i : Nat) (t : Ks),T[i]? = some t → ∃ r,U[i]? = some (t.1,t.2 ++ r)
theorem FInv.ext {T U : List Ks} {k : Nat} {q : Ks} (e : Ext T U) (h : FInv T k q) : FInv U k q where
 piece := h.piece
 k7 f hf hk := by
  obtain ⟨e1,to,t,h1,h2,h3,h4⟩ := h.k7 f hf hk
  obtain ⟨r,hr⟩ := e to t h2
  exact ⟨e1,to,_,h1,hr,h3,List.mem_append_left _ h4⟩
 k8 f hf hk := by
  obtain ⟨n,to,t,e1,h1,h2,h3,g,h4,h5⟩ := h.k8 f hf hk
  obtain ⟨r,hr⟩ := e to t h2
  exact ⟨n,to,_,e1,h1,hr,h3,g,List.mem_append_left _ h4,h5⟩
 k6 f hf hk := by
  obtain ⟨o,p,e1,h1,h2,h3,h4⟩ := h.k6 f hf hk
  obtain ⟨r,hr⟩ := e o p h2
  exact ⟨o,(p.1,p.2 ++ r),e1,h1,hr,List.mem_append_left _ h3,Qip h4⟩
theorem FInv.total {U : List Ks} {k o : Nat} {t p : Ks} (h : FInv U k t) (h1 : k < o) (h2 : U[o]? = some p) (h3 : QhV ∈ p.2) (h4 : p.2[1]? = some (sOf t.1)) : FInv U k (t.1,t.2 ++ [QhW p.1]) where
 piece := h.piece.append (Qhj (show (6:Int) ≠ 4 by decide) rfl (show QgP ≠ nLow by decide))
 k7 f hf hk := by
  rcases List.mem_append.1 hf with hf | hf
  ·obtain ⟨e1,to,t',g1,g2,g3,g4⟩ := h.k7 f hf hk
   exact ⟨e1,to,t',g1,g2,Qip g3,g4⟩
  ·rw [List.mem_singleton] at hf; subst hf; exact absurd (show (6:Int) = 7 from hk) (by decide)
 k8 f hf hk := by
  rcases List.mem_append.1 hf with hf | hf
  ·obtain ⟨n,to,t',e1,g1,g2,g3,g⟩ := h.k8 f hf hk
   exact ⟨n,to,t',e1,g1,g2,Qip g3,g⟩
  ·rw [List.mem_singleton] at hf; subst hf; exact absurd (show (6:Int) = 8 from hk) (by decide)
 k6 f hf hk := by
  rcases List.mem_append.1 hf with hf | hf
  ·exact h.k6 f hf hk
  ·rw [List.mem_singleton] at hf
   exact ⟨o,p,hf,h1,h2,h3,h4⟩
theorem Ext.self (T : List Ks) : Ext T T := fun _ t h => ⟨[],by rw [List.append_nil]; exact h⟩
theorem Ext.app {T U : List Ks} (r : List Ks) (h : Ext T U) : Ext T (U ++ r) := fun i t e => by
 obtain ⟨s,hs⟩ := h i t e
 exact ⟨s,Qip hs⟩
theorem Ext.set {T : List Ks} {i : Nat} {t : Ks} (s : List Sg) (h : T[i]? = some t) : Ext T (T.set i (t.1,t.2 ++ s)) := fun j u e => by
 rw [List.getElem?_set]
 split
 ·rename_i ej
  subst ej
  rw [if_pos (List.getElem?_eq_some_iff.1 h).1]
  rw [h] at e; cases e
  exact ⟨s,rfl⟩
 ·exact ⟨[],by rw [List.append_nil]; exact e⟩
theorem Qdx.ext {T : List Ks} {q : Ks} {T' : List Ks} (h : Qdx T q T') : Ext T T' := by
 obtain ⟨F,by',p1,p2,hp,_⟩ := h
 rcases hp with ⟨_,_,rfl⟩ | ⟨to,t,cp,pt,ht,_,_,hp⟩
 ·exact Ext.self _
 ·rcases hp with ⟨_,rfl⟩ | ⟨_,_,rfl⟩
  ·exact Ext.self _
  ·exact Ext.set _ ht
/-- What a new kind changes in the earlier ones: at most one gets a total, which goes to it. -/
theorem Qdx.old {T : List Ks} {q : Ks} {T' : List Ks} (h : Qdx T q T') {i : Nat} {u : Ks} (e : T'[i]? = some u) : T[i]? = some u ∨ ∃ t,T[i]? = some t ∧ u = (t.1,t.2 ++ [QhW q.1]) ∧ QhV ∈ q.2 ∧ q.2[1]? = some (sOf t.1) := by
 obtain ⟨F,by',p1,p2,hp,_,_,_,eq⟩ := h
 rcases hp with ⟨_,_,rfl⟩ | ⟨to,t,cp,pt,ht,rfl,_,hp⟩
 ·exact .inl e
 ·rcases hp with ⟨_,rfl⟩ | ⟨_,rfl,rfl⟩
  ·exact .inl e
  ·rw [List.getElem?_set] at e
   split at e
   ·rename_i ei
    subst ei
    rw [if_pos (List.getElem?_eq_some_iff.1 ht).1] at e
    cases e
    refine .inr ⟨t,ht,rfl,?_,?_⟩
    ·rw [eq]; simp
    ·rw [eq]; rfl
   ·exact .inl e
theorem QbA.inv {T : List Ks} (h : QbA T) : ∀ (k : Nat) (q : Ks),T[k]? = some q → FInv T k q := by
 induction h with
 | nil => intro k q h; simp at h
 | @snoc T q T' h hl hn hk ih =>
  intro k z hz
  have el : T'.length = T.length := by simpa using congrArg List.length hk.names
  have e1 : Ext T (T' ++ [q]) := hk.ext.app [q]
  have hq : (T' ++ [q])[T'.length]? = some q := by simp
  by_cases hi : k < T'.length
  ·rw [List.getElem?_append_left hi] at hz
   rcases hk.old hz with h0 | ⟨t,h0,rfl,h1,h2⟩
   ·exact (ih k z h0).ext e1
   ·exact ((ih k t h0).ext e1).total hi hq h1 h2
  ·rw [List.getElem?_append_right (by omega)] at hz
   have e0 : k - T'.length = 0 := by
    cases hd : k - T'.length with
    | zero => rfl
    | succ n => rw [hd] at hz; simp at hz
   rw [e0] at hz
   cases hz
   have hkk : k = T.length := by omega
   refine ⟨hk.piece,fun f hf hf7 => ?_,fun f hf hf8 => ?_,fun f hf hf6 => absurd hf6 (hk.links f hf).1⟩
   ·obtain ⟨to,t,ht,h1,h2⟩ := (hk.links f hf).2 (.inl hf7)
    have hto := (List.getElem?_eq_some_iff.1 ht).1
    rcases h2 with ⟨rfl,h2⟩ | ⟨g,_,_,rfl⟩
    ·exact ⟨rfl,to,_,by omega,Qip h2,h1,List.mem_append_right _ (List.mem_singleton_self _)⟩
    ·exact absurd (show (8:Int) = 7 from hf7) (by decide)
   ·obtain ⟨to,t,ht,h1,h2⟩ := (hk.links f hf).2 (.inr hf8)
    have hto := (List.getElem?_eq_some_iff.1 ht).1
    rcases h2 with ⟨rfl,h2⟩ | ⟨g,hg,hr,rfl⟩
    ·exact absurd hf8 (by decide)
    ·obtain ⟨r,hr'⟩ := e1 to t ht
     exact ⟨g.1,to,_,rfl,by omega,hr',h1,g,List.mem_append_left _ hg,rfl,hr⟩

end Go.Proofs.YtcdccjagknlmpaaGreatDoor

namespace Go.Proofs.YtcdccjagknlmpaaGreatDoor
open Go.Sim

theorem QmF {α : Type} {s : List α} {f : α → Str} (hn : (s.map f).Nodup) {k : Nat} {a : α} (h : s[k]? = some a) : QaU s (fun b => f b == f a) = (k : Int) := by
 unfold QaU
 obtain ⟨hk,e⟩ := List.getElem?_eq_some_iff.1 h
 have : s.findIdx? (fun b => f b == f a) = some k := by
  rw [List.findIdx?_eq_some_iff_getElem]
  refine ⟨hk,by rw [e]; simp,fun j hj => ?_⟩
  have := List.pairwise_iff_getElem.1 hn j k (by simp; omega) (by simpa using hk) hj
  rw [List.getElem_map,List.getElem_map,e] at this
  simpa using this
 rw [this]
section
variable {x : Qg}
theorem QeG (hC : QbA (x.Kinds.map ks)) {k : Nat} {t : Ks} (h : (x.Kinds.map ks)[k]? = some t) : ∃ q,x.Kinds[k]? = some q ∧ ks q = t ∧ Qaa x t.1 = (k : Int) := by
 rw [List.getElem?_map] at h
 obtain ⟨q,hq,rfl⟩ := Option.map_eq_some_iff.1 h
 have e : (x.Kinds.map ks).map Prod.fst = x.Kinds.map Qi.Name := by rw [List.map_map]; rfl
 have hn : (x.Kinds.map Qi.Name).Nodup := by
  rw [← e,hC.names.2]
  exact List.Nodup.sublist (List.take_sublist _ _) (by decide)
 exact ⟨q,hq,rfl,QmF hn hq⟩
theorem Qdb {q : Qi} (hn : ((ks q).2.map Prod.fst).Nodup) {j : Nat} {g : Sg} (h : (ks q).2[j]? = some g) : ∃ f,q.Fields[j]? = some f ∧ sg f = g ∧ Qbf q g.1 = (j : Int) := by
 unfold ks at h hn
 dsimp only at h hn
 rw [List.getElem?_map] at h
 obtain ⟨f,hf,rfl⟩ := Option.map_eq_some_iff.1 h
 rw [List.map_map] at hn
 exact ⟨f,hf,rfl,QmF (f := Qc.Name) hn hf⟩
theorem Qhk {k j : Nat} {q : Qi} {f : Qc} (hq : x.Kinds[k]? = some q) (hf : q.Fields[j]? = some f) : field? x (k : Int) (j : Int) = some f :=
 QmZ (by omega) (by omega) (by rw [QfD]; exact hq) (by rw [QfD]; exact hf)
theorem QjF (_ : QbA (x.Kinds.map ks)) {k : Nat} {q : Qi} (hq : x.Kinds[k]? = some q) : (x.Kinds.map ks)[k]? = some (ks q) := by rw [List.getElem?_map,hq]; rfl
theorem QrV (hC : QbA (x.Kinds.map ks)) {k j to : Nat} {q : Qi} {f : Qc} {t : Ks} (hq : x.Kinds[k]? = some q) (hf : q.Fields[j]? = some f) (hk : f.Kind = 7 ∨ f.Kind = 8) (hu : f.Up = nOf)
  (h1 : (ks q).2[1]? = some (sOf t.1)) (ht : (x.Kinds.map ks)[to]? = some t) (hto : to < k) : upIx x (k : Int) (j : Int) = (to : Int) := by
 obtain ⟨hn,r,hr,_⟩ := hC.fields _ (List.mem_of_getElem? (QjF hC hq))
 obtain ⟨g,hg,eg,e1⟩ := Qdb hn h1
 obtain ⟨qt,hqt,rfl,e2⟩ := QeG hC ht
 have hs : (ks q).2[j]? = some (sg f) := by unfold ks; dsimp only; rw [List.getElem?_map,hf]; rfl
 have hj : 1 < j := by
  rcases Nat.lt_or_ge 1 j with h | h
  ·exact h
  ·have : j = 0 ∨ j = 1 := by omega
   rcases this with rfl | rfl
   ·rw [hr] at hs
    have e0 : sId = sg f := Option.some.inj hs
    have : sId.2.1 = f.Kind := by rw [e0]; rfl
    have h0 : sId.2.1 = 0 := rfl
    omega
   ·rw [h1] at hs
    have e0 : sOf (ks qt).1 = sg f := Option.some.inj hs
    have : (sOf (ks qt).1).2.1 = f.Kind := by rw [e0]; rfl
    have h0 : (sOf (ks qt).1).2.1 = 1 := rfl
    omega
 have gk : g.Kind = 1 := congrArg (fun s : Sg => s.2.1) eg
 have go : g.Of = (ks qt).1 := congrArg (fun s : Sg => s.2.2.1) eg
 have e1' : Qbf q nOf = 1 := e1
 unfold upIx
 rw [Qhk hq hf]
 dsimp only
 rw [if_pos hk,QfD,hq]
 dsimp only
 have hg1 : field? x (k : Int) 1 = some g := Qhk (j := 1) hq hg
 rw [hu,e1',if_pos (by omega),hg1]
 dsimp only
 rw [if_pos gk]
 unfold QhR
 rw [go,e2,if_pos (by omega)]
theorem Qtq {k j to i : Nat} {qt : Qi} {f g : Qc} (hu : upIx x (k : Int) (j : Int) = (to : Int)) (hqt : x.Kinds[to]? = some qt) (hg : qt.Fields[i]? = some g) (hi : Qbf qt f.Of = (i : Int)) : topS x (k : Int) (j : Int) f = (g,true) := by
 unfold topS
 rw [hu,if_neg (by omega),QfD,hqt]
 dsimp only
 rw [hi,Qhk hqt hg]
theorem Qqu (p : Nat → Bool) (a : Nat) : ∀ n,a < n → p a = true → (∀ i,i < n → p i = true → i = a) → ((List.range n).filter p).length = 1
 | 0,h,_,_ => by omega
 | n + 1,h,ha,hu => by
  rw [List.range_succ,List.filter_append,List.length_append]
  by_cases e : a = n
  ·subst e
   have h0 : (List.range a).filter p = [] := by
    rw [List.filter_eq_nil_iff]
    intro i hi hp
    have hi' := List.mem_range.1 hi
    have := hu i (by omega) hp
    omega
   rw [h0]
   simp [ha]
  ·have h1 := Qqu p a n (by omega) ha fun i hi hp => hu i (by omega) hp
   have h2 : p n = false := by
    cases hp : p n with
    | false => rfl
    | true => exact absurd (hu n (by omega) hp).symm e
   rw [h1]
   simp [h2]
theorem fst0 {a : Bool} {c : Int} {r : List Qq} (ha : a = false) (hr : Qa0 r = 0) : Qa0 (⟨a,c⟩ :: r) = 0 := by
 subst ha; exact hr
theorem Qwl (hC : QbA (x.Kinds.map ks)) {k : Nat} {q : Qi} (hq : x.Kinds[k]? = some q) {i j : Nat} {f g : Qc} (hi : q.Fields[i]? = some f) (hj : q.Fields[j]? = some g) (e : f.Name = g.Name) : i = j := by
 obtain ⟨hn,_⟩ := hC.fields _ (List.mem_of_getElem? (QjF hC hq))
 have s1 : (ks q).2[i]? = some (sg f) := by unfold ks; dsimp only; rw [List.getElem?_map,hi]; rfl
 have s2 : (ks q).2[j]? = some (sg g) := by unfold ks; dsimp only; rw [List.getElem?_map,hj]; rfl
 obtain ⟨_,_,_,e1⟩ := Qdb hn s1
 obtain ⟨_,_,_,e2⟩ := Qdb hn s2
 have : Qbf q (sg f).1 = Qbf q (sg g).1 := congrArg _ e
 omega
theorem QrW (hC : QbA (x.Kinds.map ks)) (hL : ∃ L,x.Lives = [L] ∧ L.Name = QnZ) {k j : Nat} {q : Qi} {f : Qc} (hq : x.Kinds[k]? = some q) (hf : q.Fields[j]? = some f) : Qiu x q (k : Int) (j : Int) f = 0 := by
 have hsg := QjF hC hq
 obtain ⟨hn,hd⟩ := hC.fields _ (List.mem_of_getElem? hsg)
 have inv := hC.inv k _ hsg
 have hs : (ks q).2[j]? = some (sg f) := by unfold ks; dsimp only; rw [List.getElem?_map,hf]; rfl
 have hm := List.mem_of_getElem? hs
 have fk : (sg f).2.1 = f.Kind := rfl
 unfold Qiu
 by_cases c0 : f.Kind = 0
 ·rw [if_pos c0]
  refine fst0 ?_ rfl
  obtain ⟨r,hr,hr0⟩ := hd
  match j,hs with
  | 0,_ => rfl
  | j + 1,hs =>
   rw [hr,List.getElem?_cons_succ] at hs
   exact absurd c0 (hr0 _ (List.mem_of_getElem? hs))
 rw [if_neg c0]
 by_cases c1 : f.Kind = 1
 ·rw [if_pos c1]
  refine fst0 ?_ rfl
  obtain ⟨t,ht,et⟩ := hC.refs k _ hsg (sg f) hm c1
  have hkl := (List.getElem?_eq_some_iff.1 hsg).1
  have htl : t < (x.Kinds.map ks).length := by omega
  have ht2 := List.getElem?_eq_getElem htl
  have e3 := hC.name_at ht2
  rw [et] at e3
  obtain ⟨_,_,_,e2⟩ := QeG hC ht2
  rw [← Option.some.inj e3] at e2
  have e4 : Qaa x f.Of = (t : Int) := e2
  have eu : upIx x (k : Int) (j : Int) = (t : Int) := by
   unfold upIx
   rw [Qhk hq hf]
   dsimp only
   rw [if_neg (by omega),if_pos c1]
   unfold QhR
   rw [e4,if_pos (by omega)]
  rw [eu]
  simp
 rw [if_neg c1]
 by_cases c4 : f.Kind = 4
 ·rw [if_pos c4]
  refine fst0 ?_ rfl
  rcases inv.piece.days j _ hs c4 with h | ⟨i,g,hi,hg,e1,e2⟩
  ·have h' : f.Of = [] := h
   rw [h']; rfl
  ·obtain ⟨g',hg',rfl,e3⟩ := Qdb hn hg
   have e4 : Qbf q f.Of = (i : Int) := by
    have : (sg f).2.2.1 = f.Of := rfl
    rw [← this,← e1]; exact e3
   have gk : g'.Kind = 4 := e2
   rw [e4,Qhk hq hg']
   dsimp only
   rw [gk]
   rw [show decide ((i : Int) < 0) = false by simp,show decide ((i : Int) ≥ (j : Int)) = false by simp; omega]
   simp
 rw [if_neg c4]
 by_cases c5 : f.Kind = 5
 ·rw [if_pos c5]
  refine fst0 ?_ rfl
  obtain ⟨L,hL,hLn⟩ := hL
  have h := inv.piece.fok _ hm
  unfold fokB at h
  simp only [Bool.and_eq_true] at h
  have h2 := h.2.1
  rw [fk,c5] at h2
  have h3 : f.Of = QnZ := by simpa [sg] using h2
  rw [hL,h3]
  simp [hLn]
 rw [if_neg c5]
 by_cases c6 : f.Kind = 6
 ·rw [if_pos c6]
  obtain ⟨o,p,ef,ho,hp,hpart,h1⟩ := inv.k6 _ hm c6
  obtain ⟨qo,hqo,rfl,eo⟩ := QeG hC hp
  have efo : f.Of = (ks qo).1 := congrArg (fun s : Sg => s.2.2.1) ef
  have efn : f.Name = QgP := congrArg (fun s : Sg => s.1) ef
  have es : Qme x (k : Int) f = ((o : Int),shl x (o : Int) (k : Int) f.Name) := by
   unfold Qme
   rw [efo,eo,if_neg (by omega)]
  have hno := (hC.fields _ (List.mem_of_getElem? hp)).1
  obtain ⟨jp,hjp⟩ := List.mem_iff_getElem?.1 hpart
  obtain ⟨g,hg,eg,_⟩ := Qdb hno hjp
  have gk : g.Kind = 7 := congrArg (fun s : Sg => s.2.1) eg
  have go : g.Of = QgP := congrArg (fun s : Sg => s.2.2.1) eg
  have gu : g.Up = nOf := congrArg (fun s : Sg => s.2.2.2) eg
  have gn : g.Name = QhV.1 := congrArg (fun s : Sg => s.1) eg
  have hl : (shl x (o : Int) (k : Int) f.Name).length = 1 := by
   unfold shl
   rw [QfD,hqo]
   dsimp only
   rw [List.length_map]
   refine Qqu _ jp _ (List.getElem?_eq_some_iff.1 hg).1 ?_ fun i hi hsh => ?_
   ·unfold QjA
    rw [hg]
    dsimp only
    rw [gk,go,efn,QrV hC hqo hg (.inl gk) gu h1 hsg ho]
    simp
   ·unfold QjA at hsh
    rw [List.getElem?_eq_getElem hi] at hsh
    simp only [Bool.and_eq_true,beq_iff_eq] at hsh
    have hi' := List.getElem?_eq_getElem hi
    have hs2 : (ks qo).2[i]? = some (sg qo.Fields[i]) := by unfold ks; dsimp only; rw [List.getElem?_map,hi']; rfl
    obtain ⟨e7,_⟩ := (hC.inv o _ hp).k7 _ (List.mem_of_getElem? hs2) hsh.1.1
    refine Qwl hC hqo hi' hg ?_
    rw [gn]
    exact congrArg (fun s : Sg => s.1) e7
  rw [es]
  refine fst0 (by simp) (fst0 ?_ rfl)
  dsimp only
  rw [hl]; rfl
 rw [if_neg c6]
 by_cases c7 : f.Kind = 7
 ·rw [if_pos c7]
  obtain ⟨ef,to,t,hto,ht,h1,hT⟩ := inv.k7 _ hm c7
  have efo : f.Of = QgP := congrArg (fun s : Sg => s.2.2.1) ef
  have efu : f.Up = nOf := congrArg (fun s : Sg => s.2.2.2) ef
  have hu := QrV hC hq hf (.inl c7) efu h1 ht hto
  obtain ⟨qt,hqt,rfl,_⟩ := QeG hC ht
  have hnt := (hC.fields _ (List.mem_of_getElem? ht)).1
  obtain ⟨i,hi⟩ := List.mem_iff_getElem?.1 hT
  obtain ⟨g,hg,eg,e3⟩ := Qdb hnt hi
  have gk : g.Kind = 6 := congrArg (fun s : Sg => s.2.1) eg
  have go : g.Of = (ks q).1 := congrArg (fun s : Sg => s.2.2.1) eg
  have ht := Qtq (f := f) hu hqt hg (by rw [efo]; exact e3)
  obtain ⟨_,_,_,ek⟩ := QeG hC hsg
  rw [ht,hu]
  refine fst0 (by simp) (fst0 ?_ rfl)
  dsimp only
  rw [gk,go,ek]
  simp
 rw [if_neg c7]
 by_cases c8 : f.Kind = 8
 ·rw [if_pos c8]
  obtain ⟨n,to,t,ef,hto,ht,h1,h,hh,hn8,hr⟩ := inv.k8 _ hm c8
  have efo : f.Of = n := congrArg (fun s : Sg => s.2.2.1) ef
  have efu : f.Up = nOf := congrArg (fun s : Sg => s.2.2.2) ef
  have hu := QrV hC hq hf (.inr c8) efu h1 ht hto
  have invt := hC.inv to _ ht
  obtain ⟨qt,hqt,rfl,_⟩ := QeG hC ht
  have hnt := (hC.fields _ (List.mem_of_getElem? ht)).1
  obtain ⟨i,hi⟩ := List.mem_iff_getElem?.1 hh
  obtain ⟨g,hg,eg,e3⟩ := Qdb hnt hi
  have ht := Qtq (f := f) hu hqt hg (by rw [efo,← hn8]; exact e3)
  rw [ht,hu]
  refine fst0 (by simp) (fst0 ?_ rfl)
  have hf8 := invt.piece.fok _ hh
  unfold fokB at hf8
  simp only [Bool.and_eq_true,decide_eq_true_eq] at hf8
  obtain ⟨r1,r2,r3,r4⟩ := hr
  have gk : g.Kind = h.2.1 := congrArg (fun s : Sg => s.2.1) eg
  have : g.Kind = 2 ∨ g.Kind = 3 ∨ g.Kind = 4 ∨ g.Kind = 5 ∨ g.Kind = 8 := by omega
  unfold Qs8
  rcases this with e | e | e | e | e <;> rw [e] <;> rfl
 rw [if_neg c8]
theorem QhX (hC : QbA (x.Kinds.map ks)) {k : Nat} {q : Qi} (hq : x.Kinds[k]? = some q) {n : Str} (h : ∃ g ∈ (ks q).2,g.1 = n) (hn : (n = nLow ∨ n = Qk5) ∨ n = Qmm) : Qgu x (k : Int) n = false ∧ Qe2 x (k : Int) n = false := by
 have hsg := QjF hC hq
 obtain ⟨hnd,_⟩ := hC.fields _ (List.mem_of_getElem? hsg)
 obtain ⟨g,hg,rfl⟩ := h
 have hf := (hC.inv k _ hsg).piece.fok _ hg
 obtain ⟨i,hi⟩ := List.mem_iff_getElem?.1 hg
 obtain ⟨f,hf',eg,e3⟩ := Qdb hnd hi
 have e : Qkv x (k : Int) g.1 = (f,true) := by
  unfold Qkv
  rw [QfD,hq]
  dsimp only
  rw [e3,Qhk hq hf']
 have fk : f.Kind = 2 := by
  have gk : f.Kind = g.2.1 := congrArg (fun s : Sg => s.2.1) eg
  unfold fokB at hf
  simp only [Bool.and_eq_true] at hf
  have h2 := hf.2.2
  have h3 : ((g.1 == nLow || g.1 == Qk5) || g.1 == Qmm) = true := by simpa [or_assoc] using hn
  rw [h3] at h2
  rw [gk]
  simpa using h2
 unfold Qgu Qe2
 rw [e]
 dsimp only
 rw [fk]
 simp
theorem Qqv (k : Int) : Qgu x k [] = false ∧ Qe2 x k [] = false := ⟨rfl,rfl⟩
theorem QrX (hC : QbA (x.Kinds.map ks)) {n : Int} (hR : QiI x.Kinds n x.Rules) {i : Nat} {r : Qo} (hr : x.Rules[i]? = some r) : QnM x i r = 0 := by
 obtain ⟨ps,e1,e2,e3⟩ := hR
 have nm : ∀ (j : Nat) (s : Qo),x.Rules[j]? = some s → ∃ kk,(ps.map Prod.fst)[j]? = some kk ∧ ∃ q,x.Kinds[kk]? = some q ∧ QrT (ks q) s := fun j s hs => by
  rw [← e1,List.getElem?_map] at hs
  obtain ⟨p,hp,rfl⟩ := Option.map_eq_some_iff.1 hs
  obtain ⟨_,q,hq,h⟩ := e3 p (List.mem_of_getElem? hp)
  exact ⟨p.1,by rw [List.getElem?_map,hp]; rfl,q,hq,h⟩
 obtain ⟨kk,hkk,q,hq,hrule⟩ := nm i r hr
 obtain ⟨hrk,⟨pr,hpr⟩,hcase⟩ := hrule
 have hsg := QjF hC hq
 obtain ⟨_,_,_,ek⟩ := QeG hC hsg
 have ek' : Qaa x r.Kind = (kk : Int) := by rw [hrk]; exact ek
 have hlow := (hC.inv kk _ hsg).piece.low
 have h2 : (Qgu x (kk : Int) r.A = false ∧ Qe2 x (kk : Int) r.A = false) ∧ (Qgu x (kk : Int) r.B = false ∧ Qe2 x (kk : Int) r.B = false) ∧ (r.A == r.B) = false := by
  rcases hcase with ⟨ea,eb,hg⟩ | ⟨hg,⟨ea,eb⟩ | ⟨ea,eb⟩⟩
  ·rw [ea,eb]
   exact ⟨QhX hC hq hg (.inl (.inl rfl)),QhX hC hq (hlow hg) (.inl (.inr rfl)),by decide⟩
  ·rw [ea,eb]
   exact ⟨QhX hC hq hg (.inr rfl),Qqv _,by decide⟩
  ·rw [ea,eb]
   exact ⟨Qqv _,QhX hC hq hg (.inr rfl),by decide⟩
 obtain ⟨⟨a1,a2⟩,⟨b1,b2⟩,ab⟩ := h2
 unfold QnM
 rw [ek',a1,a2,b1,b2,ab]
 refine fst0 ?_ (fst0 (by simp) (fst0 rfl (fst0 rfl rfl)))
 rw [List.any_eq_false]
 intro s hs
 obtain ⟨j,hj⟩ := List.mem_iff_getElem?.1 hs
 rw [List.getElem?_take] at hj
 split at hj
 ·rename_i hji
  obtain ⟨k2,hk2,q2,hq2,_,⟨ps2,hps2⟩,_⟩ := nm j s hj
  obtain ⟨l1,g1⟩ := List.getElem?_eq_some_iff.1 hk2
  obtain ⟨l2,g2⟩ := List.getElem?_eq_some_iff.1 hkk
  have hlt := List.pairwise_iff_getElem.1 e2 j i l1 l2 hji
  rw [g1,g2] at hlt
  have n1 := hC.name_at hsg
  have n2 := hC.name_at (QjF hC hq2)
  have hl : (x.Kinds.map ks).length ≤ 3 := hC.names.1
  have hk3 := (List.getElem?_eq_some_iff.1 hsg).1
  intro e
  have e' : s.Name = r.Name := by simpa using e
  rw [hps2,hpr] at e'
  have key : ∀ a b : Nat,a < b → b < 3 → ∀ u v : Str,QiH[a]? = some u → QiH[b]? = some v → (u.take 1).length = (v.take 1).length ∧ u.take 1 ≠ v.take 1 := by
   intro a b hab hb u v hu hv
   have : (a = 0 ∧ b = 1) ∨ (a = 0 ∧ b = 2) ∨ (a = 1 ∧ b = 2) := by omega
   rcases this with ⟨rfl,rfl⟩ | ⟨rfl,rfl⟩ | ⟨rfl,rfl⟩ <;> cases hu <;> cases hv <;> decide
  obtain ⟨m1,m2⟩ := key k2 kk hlt (by omega) _ _ n2 n1
  exact m2 (List.append_inj' e' m1).2
 ·cases hj
theorem QjR {k j r e : Int} (h : e = 0) : prob k j r e = [] := if_pos h
theorem QqN (hC : QbA (x.Kinds.map ks)) (hL : ∃ L,x.Lives = [L] ∧ L.Name = QnZ) {n : Int} (hR : QiI x.Kinds n x.Rules) (hv : QgM x = 0) : QcP x = [] := by
 unfold QcP
 rw [if_pos hv]
 have h1 : QgN x = [] := by
  obtain ⟨L,hL,_⟩ := hL
  unfold QgN
  rw [List.flatMap_eq_nil_iff]
  intro i hi
  have hi' := List.mem_range.1 hi
  rw [hL] at hi'
  have : i = 0 := by simpa using hi'
  subst this
  unfold Qi7
  rw [hL]
  exact QjR rfl
 have h2 : QiF x = [] := by
  unfold QiF
  rw [List.flatMap_eq_nil_iff]
  intro i hi
  unfold Qi8
  cases hq : x.Kinds[i]? with
  | none => rfl
  | some q =>
   dsimp only
   have hsg := QjF hC hq
   obtain ⟨hn,r,hr,_⟩ := hC.fields _ (List.mem_of_getElem? hsg)
   obtain ⟨_,_,_,ek⟩ := QeG hC hsg
   rw [QjR,List.nil_append]
   ·unfold Qkw
    rw [List.flatMap_eq_nil_iff]
    intro j hj
    unfold QhT
    cases hf : q.Fields[j]? with
    | none => rfl
    | some f =>
     refine QjR ?_
     unfold QlR
     have hs : (ks q).2[j]? = some (sg f) := by unfold ks; dsimp only; rw [List.getElem?_map,hf]; rfl
     obtain ⟨_,_,_,e1⟩ := Qdb hn hs
     have e2 : Qbf q f.Name = (j : Int) := e1
     rw [e2,if_neg (by omega)]
     exact QrW hC hL hq hf
   ·unfold Qmh
    have ek' : Qaa x q.Name = (i : Int) := ek
    refine fst0 (by rw [ek']; simp) (fst0 ?_ rfl)
    unfold ks at hr
    dsimp only at hr
    cases hq2 : q.Fields with
    | nil => rw [hq2] at hr; cases hr
    | cons f fs =>
     rw [hq2,List.map_cons] at hr
     have e0 : sg f = sId := (List.cons.inj hr).1
     have : f.Kind = 0 := congrArg (fun s : Sg => s.2.1) e0
     simp [this]
     omega
 have h3 : Qqk x = [] := by
  unfold Qqk
  rw [List.flatMap_eq_nil_iff]
  intro i hi
  unfold Qk3
  cases hr : x.Rules[i]? with
  | none => rfl
  | some r => exact QjR (QrX hC hR hr)
 rw [h1,h2,h3]
 rfl
end
/-- A schema of the generator, or one like it, with other numbers of records. -/
structure GenS (x : Qg) : Prop where
 sz : Sz x
 tiny : Tiny x
 valid : QfA x = true
 chain : QbA (x.Kinds.map ks)
 narrow : ∀ k ∈ x.Kinds,k.Hi - k.Lo ≤ 29
 pos : 1 ≤ x.Kinds.length
 life : ∃ L,x.Lives = [L] ∧ L.Name = QnZ
 rules : ∃ n,QiI x.Kinds n x.Rules
theorem GenS.clean {x : Qg} (h : GenS x) : Qqp x := by
 obtain ⟨n,hR⟩ := h.rules
 exact ⟨h.sz.short,QqN h.chain h.life hR (QrR h.tiny h.valid),h.tiny.kinds,h.narrow⟩
theorem QrY {l : List Int} (hl : ∀ x ∈ l,I64 x) : Ok (QbY l) GenS := by
 refine (Ok.and (QsS hl) (Ok.and (Quu hl) (Quv hl))).weak fun x hx => ?_
 obtain ⟨h1,⟨h2,h3,h4⟩,⟨h5,h6,h9⟩,h7,h8⟩ := hx
 exact ⟨h1.sz (by decide),h2,h3,h5,h6,h9,h7,h8⟩

end Go.Proofs.YtcdccjagknlmpaaGreatDoor

namespace Go.Proofs.YtcdccjagknlmpaaGreatDoor
open Go.Sim

theorem GenS.set {x : Qg} (h : GenS x) {k : Nat} {q : Qi} (hq : x.Kinds[k]? = some q) {lo hi : Int} (h0 : 0 ≤ lo) (h1 : lo ≤ hi) (h2 : hi ≤ 65536) (h3 : hi - lo ≤ 29) : GenS (Qg.mk x.Version (x.Kinds.set k (Qi.mk q.Name lo hi q.Fields)) x.Lives x.Rules) := by
 have hqm := List.mem_of_getElem? hq
 have all : ∀ {P : Qi → Prop},(∀ z ∈ x.Kinds,P z) → (P q → P (Qi.mk q.Name lo hi q.Fields)) → ∀ z ∈ x.Kinds.set k (Qi.mk q.Name lo hi q.Fields),P z := fun hP hp z hz => by
  rcases List.mem_or_eq_of_mem_set hz with hz | rfl
  ·exact hP z hz
  ·exact hp (hP q hqm)
 have em : (x.Kinds.set k (Qi.mk q.Name lo hi q.Fields)).map ks = x.Kinds.map ks := by
  rw [List.map_set]
  refine List.ext_getElem? fun j => ?_
  rw [List.getElem?_set]
  split
  ·rename_i e
   subst e
   rw [if_pos (by simpa using (List.getElem?_eq_some_iff.1 hq).1),List.getElem?_map,hq]
   rfl
  ·rfl
 obtain ⟨⟨⟨s1,s2⟩,s3⟩,⟨t1,t2,t3,t4,t5⟩,hv,hc,hn,hp,hl,n,ps,p1,p2,p3⟩ := h
 refine ⟨⟨⟨by simpa using s1,all s2 fun h => h⟩,s3⟩,⟨by simpa using t1,all t2 fun h => h,t3,t4,t5⟩,?_,by rw [em]; exact hc,all hn fun _ => h3,by simpa using hp,hl,n,ps,p1,p2,fun p hp => ?_⟩
 ·unfold QfA at hv ⊢
  simp only [Bool.and_eq_true] at hv ⊢
  obtain ⟨⟨⟨⟨⟨⟨v1,v2⟩,v3⟩,v4⟩,v5⟩,v6⟩,v7⟩ := hv
  refine ⟨⟨⟨⟨⟨⟨v1,by simpa using v2⟩,v3⟩,v4⟩,?_⟩,v6⟩,v7⟩
  rw [List.all_eq_true] at v5 ⊢
  refine all v5 fun hk => ?_
  unfold QdS at hk ⊢
  simp only [Bool.and_eq_true] at hk ⊢
  refine ⟨⟨⟨hk.1.1.1,?_⟩,hk.1.2⟩,hk.2⟩
  unfold Qgq
  simp only [Bool.and_eq_true,decide_eq_true_eq]
  exact ⟨⟨h0,h1⟩,h2⟩
 ·obtain ⟨g1,r,hr,g2⟩ := p3 p hp
  have e1 : ((x.Kinds.set k (Qi.mk q.Name lo hi q.Fields)).map ks)[p.1]? = some (ks r) := by rw [em,List.getElem?_map,hr]; rfl
  rw [List.getElem?_map] at e1
  obtain ⟨r',hr',e2⟩ := Option.map_eq_some_iff.1 e1
  exact ⟨g1,r',hr',by rw [e2]; exact g2⟩

/-- How many references there are. -/
def refN (l : List Sg) : Nat := (l.filter fun f => f.2.1 == 1).length
theorem Qg6 (a b : List Sg) : refN (a ++ b) = refN a + refN b := by unfold refN; rw [List.filter_append,List.length_append]
theorem Qtr {l : List Sg} (h : ∀ f ∈ l,f.2.1 ≠ 1) : refN l = 0 := by
 unfold refN
 rw [List.length_eq_zero_iff,List.filter_eq_nil_iff]
 intro f hf
 simpa using h f hf
theorem Qdx.refN {T : List Ks} {q : Ks} {T' : List Ks} (h : Qdx T q T') : refN q.2 ≤ 2 := by
 obtain ⟨F,by',p1,p2,hp,hb,h1,h2,e⟩ := h
 have pl : ∀ {p : List Sg},p ∈ Qa4 → Go.Proofs.YtcdccjagknlmpaaGreatDoor.refN p = 0 := fun h => Qtr fun f hf => by
  have := List.all_eq_true.1 (List.all_eq_true.1 QkC _ h) f hf
  simpa using this
 have e2 : Go.Proofs.YtcdccjagknlmpaaGreatDoor.refN p2 = 0 := by
  rcases h2 with rfl | ⟨h2,_⟩
  ·rfl
  ·exact pl h2
 have eb : Go.Proofs.YtcdccjagknlmpaaGreatDoor.refN by' ≤ 1 := by
  rcases hb with rfl | ⟨_,t,_,rfl⟩
  ·exact Nat.zero_le _
  ·exact Nat.le_of_eq rfl
 have eF : Go.Proofs.YtcdccjagknlmpaaGreatDoor.refN F ≤ 1 := by
  rcases hp with ⟨_,rfl,_⟩ | ⟨to,t,cp,pt,_,rfl,hc,hp⟩
  ·exact Nat.zero_le _
  ·have e : sId :: sOf t.1 :: (cp ++ pt) = [sId,sOf t.1] ++ (cp ++ pt) := rfl
   rw [e,Qg6,Qg6]
   have c1 : Go.Proofs.YtcdccjagknlmpaaGreatDoor.refN [sId,sOf t.1] = 1 := rfl
   have c2 : Go.Proofs.YtcdccjagknlmpaaGreatDoor.refN cp = 0 := by
    rcases hc with rfl | ⟨g,_,_,rfl⟩ <;> rfl
   have c3 : Go.Proofs.YtcdccjagknlmpaaGreatDoor.refN pt = 0 := by
    rcases hp with ⟨rfl,_⟩ | ⟨_,rfl,_⟩ <;> rfl
   omega
 rw [e,Qg6,Qg6,Qg6,pl h1,e2]
 omega
theorem QbA.refN {T : List Ks} (h : QbA T) : ∀ q ∈ T,refN q.2 ≤ 2 := by
 induction h with
 | nil => intro q hq; cases hq
 | @snoc T q T' h hl hn hk ih =>
  intro z hz
  rcases List.mem_append.1 hz with hz | hz
  ·obtain ⟨i,hi⟩ := List.mem_iff_getElem?.1 hz
   rcases hk.old hi with h0 | ⟨t,h0,rfl,_⟩
   ·exact ih z (List.mem_of_getElem? h0)
   ·have := ih t (List.mem_of_getElem? h0)
    dsimp only
    rw [Qg6]
    exact this
  ·rw [List.mem_singleton] at hz; subst hz
   exact hk.refN
theorem QrZ {α β : Type} (l : List α) (F : Option α → List β) : (List.range l.length).flatMap (fun j => F l[j]?) = l.flatMap (fun a => F (some a)) := by
 rw [List.flatMap_def,List.flatMap_def]
 congr 1
 refine List.ext_getElem (by simp) fun i h1 h2 => ?_
 have hi : i < l.length := by simpa using h2
 simp [hi]
theorem Quw {x : Qg} {i : Nat} {q : Qi} : ((List.range q.Fields.length).flatMap (fldL Qb.mk x i q)).length = 2 * refN (q.Fields.map sg) := by
 have e : (List.range q.Fields.length).flatMap (fldL Qb.mk x i q) = q.Fields.flatMap (fun f => if (f.Kind == 1) = true then QgS Qb.mk (i : Int) (Qaa x f.Of) f.Lo f.Hi else []) :=
  QrZ q.Fields (fun o => match o with | some f => if (f.Kind == 1) = true then QgS Qb.mk (i : Int) (Qaa x f.Of) f.Lo f.Hi else [] | none => [])
 rw [e]
 generalize q.Fields = l
 induction l with
 | nil => rfl
 | cons f l ih =>
  rw [List.flatMap_cons,List.length_append,ih,List.map_cons]
  have e2 : refN (sg f :: l.map sg) = refN [sg f] + refN (l.map sg) := Qg6 [sg f] (l.map sg)
  rw [e2]
  have e3 : refN [sg f] = if (f.Kind == 1) = true then 1 else 0 := by
   unfold refN
   rw [List.filter_cons]
   show (if (f.Kind == 1) = true then [sg f] else ([] : List Sg)).length = _
   split <;> rfl
  rw [e3]
  split
  ·show 2 + _ = _; omega
  ·show 0 + _ = _; omega
theorem Qqw {x : Qg} (h : GenS x) : (limL Qb.mk x).length ≤ 18 := by
 have hk := h.tiny.kinds
 have := QdV x.Kinds.length (kndL Qb.mk x) 6 fun i hi => by
  unfold kndL
  rw [List.getElem?_eq_getElem hi]
  dsimp only
  rw [List.length_append,Quw]
  have := h.chain.refN (ks x.Kinds[i]) (List.mem_map_of_mem (List.getElem_mem hi))
  unfold ks at this
  dsimp only at this
  show 2 + _ ≤ 6
  omega
 unfold limL
 omega

end Go.Proofs.YtcdccjagknlmpaaGreatDoor

namespace Go.Proofs.YtcdccjagknlmpaaGreatDoor
open Go.Sim

theorem Qux (n : Int) : I64 (IntKind.i64.wrap n) := by rw [IntKind.wrap_i64]; unfold I64; omega
theorem Quy (n : Nat) : NumP (List.replicate n 0) := fun z hz => by rw [List.eq_of_mem_replicate hz]; decide
section
variable {y : Qg}
theorem QlV (hg : GenS y) : ∀ z ∈ limL Qb.mk y, VL z (y.Kinds.length : Int) := fun z hz => (QlS hg.clean.clean z hz).1
theorem Qo8 (hg : GenS y) {L : List Qb} (hs : ∀ z ∈ L, z ∈ limL Qb.mk y) (hl : L.length ≤ 24) : Qbz (y.Kinds.length : Int) L = some (if tell (Sat L) = true then ([], 6) else (ints (Q0 L), 0)) := by
 have h3 := hg.tiny.kinds
 have h1 := hg.pos
 rw [Qt8 (by omega)]
 unfold Qqc
 rw [if_neg (by omega), if_neg (by rw [List.all_eq_true.2 fun z hz => Qi1.2 (QlV hg z (hs z hz))]; decide), if_neg (by omega)]
theorem Quz (hg : GenS y) : ∃ P, Qbq y (List.replicate y.Kinds.length 0) = some (P, if tell (Sat (limL Qb.mk y)) = true then 0 else 14) := by
 have h3 := hg.tiny.kinds
 have hv := QlS hg.clean.clean
 have hW : (List.replicate y.Kinds.length (0 : Int)).length = y.Kinds.length := List.length_replicate
 rw [QrO hg.clean hW (Quy _)]
 have hv' : ∀ z ∈ limL Qb.mk y, VL z ((List.replicate y.Kinds.length (0 : Int)).length : Int) ∧ z.B < z.A := by rw [hW]; exact hv
 by_cases hb : (Qdv (limL Qb.mk y) (List.replicate y.Kinds.length 0) (QcQ (limL Qb.mk y) (List.replicate y.Kinds.length (0 : Int)).length)).2 < 0
 ·rw [if_pos hb, if_neg]
  ·exact ⟨_, rfl⟩
  ·intro ht
   obtain ⟨c, hc, nc, hk⟩ := (Qoy (by omega) (QlV hg)).1 (QdE.1 ht)
   exact Qti hv' hb (by rw [hW]; exact hc) nc hk
 ·rw [if_neg hb, if_pos]
  ·exact ⟨_, rfl⟩
  ·obtain ⟨a1, a2, a3, _⟩ := Qtj hv' (by rw [hW]; omega) hb
   exact QdE.2 ((Qoy (by omega) (QlV hg)).2 ⟨_, by rw [a1, hW], a2, a3⟩)
theorem Qts {Q : Bool → Prop} (h : Q true) : Ok (QcN.bind fun t => some t) Q := by
 rw [QnJ]; exact ⟨true, rfl, h⟩

theorem Qr0 {O : List Int} (hg : GenS y) (hO : O.length = y.Kinds.length) (nO : NumP O) {L : List Qb} (hL : limL Qb.mk y = L) (hns : ¬ Sat L) {body : Int × Bool × List Qb → Option ((Int × Bool × List Qb) ⊕ ((Bool × List Qb) ⊕ Bool))}
  (hb : ∀ k (h : k < (Q0 L).length) (f : Bool) (acc : List Qb), acc.length = k → body ((k : Int), f, acc) = some (.inl (((k + 1 : Nat) : Int), (f && QgK (L.getD (Q0 L)[k] zL) O), acc ++ [L.getD (Q0 L)[k] zL])))
  (he : ∀ f acc, body (((Q0 L).length : Int), f, acc) = some (.inr (.inl (f, acc)))) {g : (Bool × List Qb) ⊕ Bool → Option Bool} {Q : Bool → Prop} (hgo : Ok (g (.inl (false, sel L (Q0 L)))) Q) : Ok ((QI body ((0 : Int), true, [])).bind g) Q := by
 suffices h : QI body ((0 : Int), true, []) = some (.inl (false, sel L (Q0 L))) by rw [h]; exact hgo
 obtain ⟨_, m, g1, g2, g3, g4, g5⟩ := QjN hns
 have h := QfC (body := body) (Q0 L).length (fun k => ((k : Int), ((Q0 L).take k).all (fun i => QgK (L.getD i zL) O), sel L ((Q0 L).take k))) (.inl (((Q0 L).take (Q0 L).length).all (fun i => QgK (L.getD i zL) O), sel L ((Q0 L).take (Q0 L).length))) (fun k hk => ?_) (he _ _)
 ·have e : ((Q0 L).take (Q0 L).length).all (fun i => QgK (L.getD i zL) O) = false := by
   cases ha : ((Q0 L).take (Q0 L).length).all (fun i => QgK (L.getD i zL) O) with
   | false => rfl
   | true =>
    refine absurd ?_ g2
    rw [List.take_length, List.all_eq_true] at ha
    have h3 := hg.tiny.kinds
    refine (Qoy (n := y.Kinds.length) (by omega) fun z hz => QlV hg z (by rw [hL]; exact Qkm g1.in z hz)).2 ⟨O, hO, nO, fun z hz => ?_⟩
    obtain ⟨i, hi, rfl⟩ := List.mem_map.1 hz
    have h1 := ha i hi
    rwa [QrP (by rw [hO]; exact QlV hg _ (by rw [hL]; exact Qkm g1.in _ hz)) nO] at h1
  rw [e, List.take_length] at h
  simpa [sel] using h
 ·rw [hb k hk _ _ (by rw [Qml, List.length_take]; omega), List.take_succ_eq_append_getElem hk, List.all_append, Qwf]
  simp [sel]
theorem Qr1 (hg : GenS y) {L : List Qb} (hL : limL Qb.mk y = L) (hns : ¬ Sat L) {j : Nat} (hj : j < (Q0 L).length) :
  Qbz (y.Kinds.length : Int) ((sel L (Q0 L)).take j ++ (sel L (Q0 L)).drop (j + 1)) = some ([], 6) := by
 obtain ⟨g, m, g1, g2, g3, g4, g5⟩ := QjN hns
 have e : (sel L (Q0 L)).take j ++ (sel L (Q0 L)).drop (j + 1) = sel L ((Q0 L).take j ++ (Q0 L).drop (j + 1)) := by
  unfold sel
  rw [List.map_append, List.map_take, List.map_drop]
 have hin : ∀ i ∈ (Q0 L).take j ++ (Q0 L).drop (j + 1), i < L.length := fun i hi => by
  rcases List.mem_append.1 hi with hi | hi
  ·exact g1.in i (List.mem_of_mem_take hi)
  ·exact g1.in i (List.mem_of_mem_drop hi)
 have hlen : ((Q0 L).take j ++ (Q0 L).drop (j + 1)).length < (Q0 L).length := by
  rw [List.length_append, List.length_take, List.length_drop]
  omega
 have hle := Qqw hg
 rw [hL] at hle
 rw [e, Qo8 hg (fun z hz => by rw [hL]; exact Qkm hin z hz) (by rw [Qml]; omega), if_pos (QdE.2 (Qtk hns (QrQ g1.up j) hin hlen))]
end

theorem Qpl (l : List Int) (at_ more : Int) (other : List Int) (i0 : ∀ x ∈ l, I64 x) (i1 : I64 at_) (i2 : I64 more) (i3 : ∀ x ∈ other, I64 x) : QcB l at_ more other = some true := by
 have main : Ok (QcB l at_ more other) (fun r => r = true) := by
  unfold QcB
  refine (QrY i0).bind fun x hx => ?_
  have h1 := hx.pos
  have h3 := hx.tiny.kinds
  refine Ok.arnd i1 (by omega) fun k k0 k1 => ?_
  refine Ok.rm (by simp; omega) ?_
  refine Ok.arnd i2 (by decide) fun lo l0 l1 => ?_
  rw [List.nil_append]
  refine Ok.idx k0 k1 fun q hqm hq => ?_
  refine Ok.setAt k0 k1 ?_
  have kl : k.toNat < x.Kinds.length := by omega
  refine Ok.idx k0 (by simpa using k1) fun q1 _ hq1 => ?_
  rw [List.getElem?_set, if_pos rfl, if_pos kl] at hq1
  obtain rfl := Option.some.inj hq1
  refine Ok.arnd (Qux _) (by decide) fun d d0 d1 => ?_
  refine Ok.idx k0 (by simpa using k1) fun q2 _ hq2 => ?_
  rw [List.getElem?_set, if_pos rfl, if_pos kl] at hq2
  obtain rfl := Option.some.inj hq2
  refine Ok.setAt k0 (by simpa using k1) ?_
  rw [List.set_set]
  dsimp only
  rw [w64 (n := lo + d) (by omega) (by omega)]
  have hg := hx.set hq (lo := lo) (hi := lo + d) l0 (by omega) (by omega) (by omega)
  obtain ⟨y, hy⟩ : ∃ y, Qg.mk x.Version (x.Kinds.set k.toNat (Qi.mk q.Name lo (lo + d) q.Fields)) x.Lives x.Rules = y := ⟨_, rfl⟩
  have hyl : (x.Kinds.set k.toNat (Qi.mk q.Name lo (lo + d) q.Fields)).length = y.Kinds.length := by rw [← hy]
  rw [hy] at hg
  simp only [hy, hyl]
  have h1 := hg.pos
  have h3 := hg.tiny.kinds
  obtain ⟨hL, hn⟩ := Qqq hg.clean
  obtain ⟨P, hP⟩ := Quz hg
  have hfew := Qqw hg
  have hC := Qo8 hg (L := limL Qb.mk y) (fun z hz => hz) (by omega)
  rw [hL, QsG _ _ (by omega)]
  simp only [Option.bind_some, hP, hC]
  by_cases hs : tell (Sat (limL Qb.mk y)) = true
  ·rw [if_pos hs, if_pos hs, if_neg (by decide), if_pos (by decide)]
   exact Qts rfl
  ·rw [if_neg hs, if_neg hs]
   have hns : ¬ Sat (limL Qb.mk y) := fun h => hs (QdE.2 h)
   obtain ⟨O, eO, hO, nO⟩ := QsI (n := (y.Kinds.length : Int)) i3 (by omega) (by omega)
   have hO' : O.length = y.Kinds.length := by omega
   have nO' : NumP O := fun z hz => by have := nO z hz; omega
   generalize hLe : limL Qb.mk y = L at *
   obtain ⟨g, m, g1, g2, g3, g4, g5⟩ := QjN hns
   dsimp only
   rw [if_neg (by decide), if_neg (by decide)]
   refine Qr0 hg hO' nO' hLe hns (fun j hj f acc ha => ?_) (fun f acc => ?_) ⟨true, ?_, rfl⟩
   rotate_left
   rotate_left
   ·dsimp only
    have hcl : (sel L (Q0 L)).length = m := by rw [Qml, g3]
    rw [if_neg (by simp [hcl]; omega)]
    rw [Qt1 (sel L (Q0 L)) (fun _ => true) false (fun j hj => ?_) (if_neg (by simp))]
    ·rw [if_pos (by simp)]
     show (QcN.bind fun t => some t) = some true
     rw [QnJ]; rfl
    ·have hj' : j < (Q0 L).length := by rw [Qml] at hj; exact hj
     have hs1 : sub (sel L (Q0 L)) 0 (j : Int) = some ((sel L (Q0 L)).take j) := by
      unfold sub
      rw [if_pos ⟨by decide, by omega, by omega⟩]
      simp
     have hs2 : sub (sel L (Q0 L)) ((j + 1 : Nat) : Int) ((sel L (Q0 L)).length : Int) = some ((sel L (Q0 L)).drop (j + 1)) := by
      unfold sub
      rw [if_pos ⟨by omega, by omega, by omega⟩]
      simp
      exact List.take_of_length_le (by simp)
     rw [if_pos rfl, if_pos (by simpa using hj), hs1]
     simp only [Option.bind_some, List.nil_append]
     rw [Qgn (by simp; omega)]
     simp only [Option.bind_some]
     rw [Qab hj (by omega), hs2]
     simp only [Option.bind_some]
     rw [Qgn (by simp; omega)]
     simp only [Option.bind_some]
     rw [Qr1 hg hLe hns hj']
     simp only [Option.bind_some]
     rw [if_neg (by decide)]
   ·have hjl : j < (ints (Q0 L)).length := by rw [QmX]; exact hj
    have ij : idx (ints (Q0 L)) (j : Int) = some (((Q0 L)[j] : Nat) : Int) := by rw [Qak hjl]; simp [ints]
    have hin : (Q0 L)[j] < L.length := g1.in _ (List.getElem_mem hj)
    have iL : idx L (((Q0 L)[j] : Nat) : Int) = some (L.getD (Q0 L)[j] zL) := by rw [Qak hin, Qok hin]
    have hH : QbZ (L.getD (Q0 L)[j] zL) O = some (QgK (L.getD (Q0 L)[j] zL) O) := Qt3 (by omega)
    have hu : ∀ i (hi : i < (Q0 L).length), i < j → (Q0 L)[i] < (Q0 L)[j] := fun i hi hij => List.pairwise_iff_getElem.1 g1.up i j hi hj hij
    dsimp only
    rw [if_pos (by simpa using hjl), ij]
    simp only [Option.bind_some, show decide ((((Q0 L)[j] : Nat) : Int) < 0) = false by simp, show (false == false) = true from rfl, Qfg, Bool.false_or, show decide ((((Q0 L)[j] : Nat) : Int) ≥ (L.length : Int)) = false by simp; omega, Bool.true_and]
    have key : ∀ (F : Int → Int → Option ((Int × Bool × List Qb) ⊕ ((Bool × List Qb) ⊕ Bool))) (G : Option ((Int × Bool × List Qb) ⊕ ((Bool × List Qb) ⊕ Bool))), (∀ a b : Int, (decide ((j : Int) > 0) && decide (a ≤ b)) = false → F a b = G) →
      ((opt (decide ((j : Int) > 0) == true) (some (((Q0 L)[j] : Nat) : Int)) default).bind fun a => (opt (decide ((j : Int) > 0) == true) (idx (ints (Q0 L)) (IntKind.i64.wrap ((j : Int) - 1))) default).bind fun b => F a b) = G := by
     intro F G hF
     cases j with
     | zero => exact hF _ _ rfl
     | succ i =>
      have e1 : decide (((i + 1 : Nat) : Int) > 0) = true := by simp
      have e2 : IntKind.i64.wrap (((i + 1 : Nat) : Int) - 1) = (i : Int) := by rw [w64 (by omega) (by omega)]; omega
      have hi : i < (Q0 L).length := by omega
      have e3 : idx (ints (Q0 L)) (i : Int) = some (((Q0 L)[i] : Nat) : Int) := by rw [Qak (by rw [QmX]; exact hi)]; simp [ints]
      rw [e1, e2, e3]
      simp only [show (true == true) = true from rfl, Qfg, Option.bind_some]
      refine hF _ _ ?_
      have := hu i hi (by omega)
      rw [e1]
      simp
      omega
    refine key _ _ fun a b hab => ?_
    rw [hab, if_neg (by decide), iL]
    simp only [Option.bind_some]
    rw [Qgn (by simp; omega)]
    simp only [Option.bind_some]
    rw [Qab hj (by omega)]
    cases f
    ·rfl
    ·simp only [show (true == true) = true from rfl, Qfg, Option.bind_some, iL, eO, hH]
   ·dsimp only
    rw [if_neg (by rw [QmX]; simp)]
 obtain ⟨r, hr, rfl⟩ := main
 exact hr

end Go.Proofs.YtcdccjagknlmpaaGreatDoor

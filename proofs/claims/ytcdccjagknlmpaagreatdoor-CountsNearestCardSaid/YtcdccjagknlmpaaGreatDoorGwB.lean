/- The generator gives schemas without problems: what a new kind looks like. No condition. -/
import Derived.Test.YtcdccjagknlmpaaGreatDoorTyA
namespace Go.Proofs.YtcdccjagknlmpaaGreatDoor
open Go.Sim

def Qir : List Str := [[112,101,114,115,111,110],[111,114,100,101,114],[105,116,101,109]]
theorem Qns {p : List Qb} (h : p.map sg ∈ Qbb) : p.length ≤ 2 := by
 have e : p.length = (p.map sg).length := by simp
 simp only [Qbb,List.mem_cons,List.not_mem_nil,or_false] at h
 rw [e]
 rcases h with h | h | h | h | h | h <;> rw [h] <;> decide
set_option maxHeartbeats 1000000 in
theorem kind_w {m : Qv} {l : List Qi} {N : Nat} (hm : MOk m) (hl : l.length ≤ 2) (hN : N ≤ 20) (hk : ∀ k ∈ l,k.Fields.length ≤ N) (hw : ∀ k ∈ l,k.Hi - k.Lo ≤ 29) :
  Ok (Qbg m l) (fun r => (Qir[l.length]? = some r.1.Name ∧ r.1.Hi - r.1.Lo ≤ 29) ∧ (MOk r.2.1 ∧ ∀ k ∈ r.2.2,k.Hi - k.Lo ≤ 29) ∧ Qed (l.map ks) (ks r.1) (r.2.2.map ks)) := by
 unfold Qbg
 refine Ok.take hm (by decide) fun r1 m1 a1 b1 h1 => ?_
 refine Ok.idx a1 (by simpa using b1) fun lo hlo _ => ?_
 refine Ok.idx (by omega) (by simp; omega) fun name _ ename => ?_
 have hlo2 : 0 ≤ lo ∧ lo ≤ 4 := by
  simp only [List.mem_cons,List.not_mem_nil,or_false] at hlo
  omega
 refine Ok.take h1 (by decide) fun r2 m2 a2 b2 h2 => ?_
 refine Ok.take h2 (by decide) fun r3 m3 a3 b3 h3 => ?_
 refine Ok.idx a3 (by simpa using b3) fun id0 hid _ => ?_
 refine Ok.rm (by simp) ?_
 refine Ok.bind (P := fun p : Qv × List Qb × List Qi => MOk p.1 ∧ p.2.1.length ≤ 4 ∧ (p.2.2.length = l.length ∧ ∀ k ∈ p.2.2,k.Hi - k.Lo ≤ 29) ∧ PreS (l.map ks) name (p.2.1.map sg) (p.2.2.map ks))
  (Ok.ite (fun hpos => ?_) (fun hz => Ok.mk ⟨h3,by simp,⟨rfl,hw⟩,.inl ⟨?_,rfl,rfl⟩⟩)) fun p hp => ?_
 ·have hpos' : (0:Int) < l.length := of_decide_eq_true hpos
  refine Ok.take h3 (by omega) fun to m4 a4 b4 h4 => ?_
  refine Ok.idx a4 b4 fun kt hkt ekt => ?_
  have hT : (l.map ks)[to.toNat]? = some (ks kt) := by rw [List.getElem?_map,ekt]; rfl
  refine Ok.take h4 (by decide) fun r5 m5 a5 b5 h5 => ?_
  refine Ok.idx a5 (by simpa using b5) fun hi hhi _ => ?_
  refine Ok.take h5 (by decide) fun r6 m6 _ _ h6 => ?_
  refine Ok.bind (P := fun f => sg f = sOf kt.Name) (Ok.ite (fun _ => Ok.mk rfl) (fun _ => Ok.mk rfl)) fun f hf => ?_
  refine Ok.rm (by simp) ?_
  refine Ok.idx a4 b4 fun kt1 hkt1 ekt1 => ?_
  have e : kt1 = kt := Option.some.inj (ekt1.symm.trans ekt)
  subst e
  refine (Qtb (by have := hk _ hkt1; omega)).bind fun c hc => ?_
  refine Ok.opt (P := fun r : Int × Qv => MOk r.2) (fun h => (QdR h6 (by decide)).weak fun r h => h.2.2) fun r7 h7 => ?_
  have m7 : MOk (bif (decide (c ≥ (0:Int))) == true then r7.2 else m6) := Qds (fun h => h7 (by rw [h]; rfl)) h6
  refine Ok.bind (P := fun p : List Qb => p.length ≤ 3 ∧ ∃ cp,p.map sg = sId :: sOf kt1.Name :: cp ∧ (cp = [] ∨ ∃ g ∈ (ks kt1).2,(g.2.1 ≠ 0 ∧ g.2.1 ≠ 1 ∧ g.2.1 ≠ 6 ∧ g.2.1 ≠ 7) ∧ cp = [QiS g.1])) (Ok.ite (fun h => ?_) (fun _ => Ok.mk ⟨by simp,[],?_,.inl rfl⟩)) fun fs hfs => ?_
  ·simp only [Bool.and_eq_true,decide_eq_true_eq] at h
   refine Ok.idx a4 b4 fun kt2 hkt2 ekt2 => ?_
   have e : kt2 = kt1 := Option.some.inj (ekt2.symm.trans ekt)
   subst e
   refine Ok.idx h.1 hc.1.2 fun g hg eg => Ok.rm (by simp) (Ok.mk ⟨by simp,[QiS g.Name],?_,.inr ⟨sg g,List.mem_map_of_mem hg,?_,rfl⟩⟩)
   ·show [sId,sg f,QiS g.Name] = _
    rw [hf]
   ·obtain ⟨g',eg',hg'⟩ := hc.2 h.1
    have e : g' = g := Option.some.inj (eg'.symm.trans eg)
    subst e
    exact hg'
  ·show [sId,sg f] = _
   rw [hf]
  ·obtain ⟨hfl,cp,hfm,hcp⟩ := hfs
   refine Ok.idx a4 b4 fun kt3 hkt3 ekt3 => ?_
   have e : kt3 = kt1 := Option.some.inj (ekt3.symm.trans ekt)
   subst e
   refine (QoU (by have := hk _ hkt3; omega)).bind fun tot htot => ?_
   refine Ok.opt (P := fun r : Int × Qv => MOk r.2) (fun h => (QdR m7 (by decide)).weak fun r h => h.2.2) fun r8 h8 => ?_
   have m8 : MOk (bif (decide (tot < (0:Int))) == true then r8.2 else (bif (decide (c ≥ (0:Int))) == true then r7.2 else m6)) := Qds (fun h => h8 (by rw [h]; rfl)) m7
   refine Ok.bind (P := fun p : Qv × List Qb × List Qi => MOk p.1 ∧ p.2.1.length ≤ 4 ∧ (p.2.2.length = l.length ∧ ∀ k ∈ p.2.2,k.Hi - k.Lo ≤ 29) ∧ PreS (l.map ks) name (p.2.1.map sg) (p.2.2.map ks))
    (Ok.ite (fun h => ?_) (fun _ => Ok.mk ⟨m8,by dsimp only; omega,⟨rfl,hw⟩,.inr ⟨to.toNat,ks kt3,cp,[],hT,by rw [hfm,List.append_nil]; rfl,hcp,.inl ⟨rfl,rfl⟩⟩⟩)) fun p hp => Ok.mk hp
   simp only [Bool.and_eq_true,decide_eq_true_eq] at h
   refine Ok.take m8 (by decide) fun r9 m9 a9 b9 h9 => Ok.take h9 (by decide) fun r10 m10 a10 b10 h10 => ?_
   refine Ok.rm (by simp; omega) ?_
   refine Ok.idx a4 b4 fun kt4 hkt4 ekt4 => ?_
   have hk4 := hk _ hkt4
   refine Ok.rm (by simp; omega) (Ok.rm (by simp; omega) ?_)
   have e : kt4 = kt3 := Option.some.inj (ekt4.symm.trans ekt)
   subst e
   refine Ok.idx a4 b4 fun kt5 hkt5 ekt5 => ?_
   have e : kt5 = kt4 := Option.some.inj (ekt5.symm.trans ekt)
   subst e
   refine Ok.setAt a4 b4 (Ok.mk ⟨h10,by simp; omega,⟨by simp,fun k hkm => ?_⟩,.inr ⟨to.toNat,ks kt5,cp,[Qht],hT,?_,hcp,.inr ⟨?_,rfl,?_⟩⟩⟩)
   ·rcases List.mem_or_eq_of_mem_set hkm with hkm | rfl
    ·exact hw k hkm
    ·exact hw kt5 hkt5
   ·dsimp only
    rw [List.map_append,hfm]
    rfl
   ·intro g hg
    obtain ⟨f',hf',rfl⟩ := List.mem_map.1 hg
    exact htot.2.1 h.1 f' hf'
   ·dsimp only
    rw [List.map_set]
    congr 1
    simp [ks,sg,Qhu,QgB]
 ·have : ¬ ((l.length : Int) > 0) := of_decide_eq_false hz
  simp
  exact List.length_eq_zero_iff.1 (by omega)
 ·obtain ⟨q1,q2,⟨q4,q7⟩,q5⟩ := hp
  refine Ok.opt (P := fun r : Int × Qv => MOk r.2) (fun h => (QdR q1 (by decide)).weak fun r h => h.2.2) fun r11 h11 => ?_
  have m11 : MOk (bif (decide ((l.length : Int) > (1:Int))) == true then r11.2 else p.1) := Qds (fun h => h11 (by rw [h]; rfl)) q1
  refine Ok.bind (P := fun f : List Qb => f.length ≤ 5 ∧ ∃ by',f.map sg = p.2.1.map sg ++ by' ∧ (by' = [] ∨ (1 < (l.map ks).length ∧ ∃ t,(p.2.2.map ks)[0]? = some t ∧ by' = [sBy t.1]))) (Ok.ite (fun h => ?_) (fun _ => Ok.mk ⟨by omega,[],by simp,.inl rfl⟩)) fun fs hfs => ?_
  ·simp only [Bool.and_eq_true,decide_eq_true_eq] at h
   refine Ok.idx (by decide) (by omega) fun k0 hk0 ek0 => Ok.rm (by simp; omega) (Ok.mk ⟨by simp; omega,[sBy k0.Name],by rw [List.map_append]; rfl,.inr ⟨by simp; omega,ks k0,?_,rfl⟩⟩)
   rw [List.getElem?_map]
   rw [show (0:Int).toNat = 0 from rfl] at ek0
   rw [ek0]; rfl
  ·refine (Qqr m11).bind fun r12 h12 => ?_
   obtain ⟨c1,c3⟩ := h12
   have c2 := Qns c1
   obtain ⟨f1,by',f2,f3⟩ := hfs
   refine Ok.rm (by omega) ?_
   refine Ok.take c3 (by decide) fun r13 m13 _ _ h13 => ?_
   have eh : IntKind.i64.wrap (lo + r2) = lo + r2 := w64 (by omega) (by omega)
   refine Ok.bind (P := fun q : Qv × List Qb => MOk q.1 ∧ ∃ p2,q.2.map sg = p.2.1.map sg ++ by' ++ r12.1.map sg ++ p2 ∧ (p2 = [] ∨ (p2 ∈ Qbb ∧ ∀ g,p2[0]? = some g → ∀ f ∈ p.2.1.map sg ++ by' ++ r12.1.map sg,f.1 ≠ g.1))) (Ok.ite (fun h => ?_) (fun _ => Ok.mk ⟨h13,[],by rw [List.map_append,f2,List.append_nil],.inl rfl⟩)) fun p52 hp52 => ?_
   ·refine (Qqr h13).bind fun r14 h14 => ?_
    obtain ⟨d1,d3⟩ := h14
    have d2 := Qns d1
    refine Ok.opt (P := fun v => r14.1[0]? = some v) (fun h => ?_) fun g hg => ?_
    ·have h' : (r14.1.length : Int) > 0 := by simpa using h
     exact (Ok.idx (by decide) (by omega) fun v _ ev => Ok.mk ev : Ok ((idx r14.1 0).bind some) (fun v => r14.1[0]? = some v)).weak (fun _ h => h) |> fun h => by simpa using h
    refine Ok.opt (P := fun t => t < 0 → ∀ f ∈ fs ++ r12.1,f.Name ≠ g.Name) (fun h => (QoU (by rw [List.length_append]; omega)).weak fun _ h => h.2.1) fun g2 hg2 => ?_
    refine Ok.bind (P := fun q : List Qb => ∃ p2,q.map sg = p.2.1.map sg ++ by' ++ r12.1.map sg ++ p2 ∧ (p2 = [] ∨ (p2 ∈ Qbb ∧ ∀ g,p2[0]? = some g → ∀ f ∈ p.2.1.map sg ++ by' ++ r12.1.map sg,f.1 ≠ g.1))) (Ok.ite (fun h => Ok.rm (by rw [List.length_append]; omega) (Ok.mk ⟨r14.1.map sg,by rw [List.map_append,List.map_append,f2],.inr ⟨d1,fun s hs f hf => ?_⟩⟩)) (fun _ => Ok.mk ⟨[],by rw [List.map_append,f2,List.append_nil],.inl rfl⟩)) fun p64 hp64 => Ok.mk ⟨d3,hp64⟩
    simp only [Bool.and_eq_true,decide_eq_true_eq] at h
    have e1 := hg (by simpa using h.1)
    have e2 := hg2 (by simpa using h.1) h.2
    rw [List.getElem?_map,e1] at hs
    cases hs
    rw [← f2,← List.map_append] at hf
    obtain ⟨f',hf',rfl⟩ := List.mem_map.1 hf
    exact e2 f' hf'
   ·obtain ⟨z1,p2,z2,z3⟩ := hp52
    refine Ok.mk ⟨⟨?_,?_⟩,⟨z1,q7⟩,p.2.1.map sg,by',r12.1.map sg,p2,q5,f3,c1,z3,z2⟩
    ·simpa [Qir] using ename
    ·dsimp only; rw [eh]; omega

end Go.Proofs.YtcdccjagknlmpaaGreatDoor

namespace Go.Proofs.YtcdccjagknlmpaaGreatDoor
open Go.Sim

def nLow : Str := [108,111,119]
def QkL : Str := [104,105,103,104]
def Ql2 : Str := [115,105,122,101]
/-- A rule of a kind: its name ends with the first letter of the kind's. -/
def QqV (q : Ks) (r : Qo) : Prop :=
 r.Kind = q.1 ∧ (∃ p : Str,r.Name = p ++ q.1.take 1) ∧
  ((r.A = nLow ∧ r.B = QkL ∧ ∃ g ∈ q.2,g.1 = nLow) ∨ ((∃ g ∈ q.2,g.1 = Ql2) ∧ ((r.A = Ql2 ∧ r.B = []) ∨ (r.A = [] ∧ r.B = Ql2))))
theorem rule_w {m : Qv} {k : Qi} (hm : MOk m) (hf : k.Fields.length ≤ 1000) (h0 : 1 ≤ k.Name.length) (h1 : k.Name.length ≤ 1000) : Ok (Qbh m k) (fun r => (r.2.1 = true → QqV (ks k) r.1) ∧ MOk r.2.2) := by
 unfold Qbh
 have hs : sub k.Name 0 1 = some (k.Name.take 1) := by
  unfold sub
  rw [if_pos ⟨by decide,by decide,by omega⟩]
  rfl
 have hl : (k.Name.take 1).length ≤ 1 := by rw [List.length_take]; omega
 have sgm : ∀ {n : Str},(∃ f ∈ k.Fields,f.Name = n) → ∃ g ∈ (ks k).2,g.1 = n := fun ⟨f,hf,e⟩ => ⟨sg f,List.mem_map_of_mem hf,e⟩
 rw [hs]
 simp only [Option.bind_some]
 refine (QoU hf).bind fun a ha => (QoU hf).bind fun b hb => ?_
 refine Ok.opt (P := fun r : Int × Qv => MOk r.2) (fun h => (QdR hm (by decide)).weak fun r h => h.2.2) fun r1 h1 => ?_
 have m1 : MOk (bif (decide (a ≥ (0:Int))) == true then r1.2 else m) := Qds (fun h => h1 (by rw [h]; rfl)) hm
 refine Ok.ite (fun h => Ok.cat (by simp; omega) (Ok.take m1 (by decide) fun v m2 a2 b2 h2 => Ok.mk ⟨fun _ => ?_,h2⟩)) (fun _ => ?_)
 ·simp only [Bool.and_eq_true,decide_eq_true_eq] at h
  exact ⟨rfl,⟨_,rfl⟩,.inl ⟨rfl,rfl,sgm (ha.2.2 h.1)⟩⟩
 refine Ok.ite (fun _ => Ok.mk ⟨fun h => (by cases h),m1⟩) (fun h => ?_)
 have hb0 : ¬ b < 0 := of_decide_eq_false h
 refine Ok.idx (by omega) hb.1.2 fun f hf _ => Ok.take m1 (by decide) fun r2 m2 _ _ h2 => ?_
 refine Ok.ite (fun _ => Ok.cat (by simp; omega) (Ok.take h2 (by decide) fun v m2 a2 b2 h2 => Ok.mk ⟨fun _ => ?_,h2⟩)) (fun _ => Ok.cat (by simp; omega) (Ok.take h2 (by decide) fun v m2 a2 b2 h2 => Ok.mk ⟨fun _ => ?_,h2⟩))
 ·exact ⟨rfl,⟨_,rfl⟩,.inr ⟨sgm (hb.2.2 (by omega)),.inl ⟨rfl,rfl⟩⟩⟩
 ·exact ⟨rfl,⟨_,rfl⟩,.inr ⟨sgm (hb.2.2 (by omega)),.inr ⟨rfl,rfl⟩⟩⟩

end Go.Proofs.YtcdccjagknlmpaaGreatDoor

namespace Go.Proofs.YtcdccjagknlmpaaGreatDoor
open Go.Sim

set_option maxHeartbeats 1000000 in
theorem Qqs {m : Qv} {l : List Qi} {N : Nat} (hm : MOk m) (hl : l.length ≤ 2) (hN : N ≤ 20) (hk : ∀ k ∈ l,KV N k) :
  Ok (Qbg m l) (fun r => (KV 9 r.1 ∧ (l.length ≤ 1 → KV 8 r.1) ∧ (l.length = 0 → KV 5 r.1)) ∧ MOk r.2.1 ∧ r.2.2.length = l.length ∧ ∀ k ∈ r.2.2,KV (N + 1) k) := by
 unfold Qbg
 refine Ok.take hm (by decide) fun r1 m1 a1 b1 h1 => ?_
 refine Ok.idx a1 (by simpa using b1) fun lo hlo _ => ?_
 refine Ok.idx (by omega) (by simp; omega) fun name hname _ => ?_
 have hsn : Q1 name = true := by
  simp only [List.mem_cons,List.not_mem_nil,or_false] at hname
  rcases hname with rfl | rfl | rfl <;> decide
 have hlo2 : 0 ≤ lo ∧ lo ≤ 4 := by
  simp only [List.mem_cons,List.not_mem_nil,or_false] at hlo
  omega
 refine Ok.take h1 (by decide) fun r2 m2 a2 b2 h2 => ?_
 refine Ok.take h2 (by decide) fun r3 m3 a3 b3 h3 => ?_
 refine Ok.idx a3 (by simpa using b3) fun id0 hid _ => ?_
 have hid2 : VF ⟨[105,100],[],[],0,id0,0,[],[]⟩ := by
  simp only [List.mem_cons,List.not_mem_nil,or_false] at hid
  exact vf_key (by decide) (by omega)
 have hone : ∀ f ∈ ([⟨[105,100],[],[],0,id0,0,[],[]⟩] : List Qb),VF f := fun f hf => by rw [List.mem_singleton] at hf; subst hf; exact hid2
 refine Ok.rm (by simp) ?_
 refine Ok.bind (P := fun p : Qv × List Qb × List Qi => MOk p.1 ∧ (p.2.1.length ≤ 4 ∧ (l.length = 0 → p.2.1.length ≤ 1)) ∧ (∀ f ∈ p.2.1,VF f) ∧ p.2.2.length = l.length ∧ ∀ k ∈ p.2.2,KV (N + 1) k)
  (Ok.ite (fun hpos => ?_) (fun _ => Ok.mk ⟨h3,⟨by simp,by simp⟩,hone,rfl,fun k h => (hk k h).weak (by omega)⟩)) fun p hp => ?_
 ·have hpos' : (0:Int) < l.length := of_decide_eq_true hpos
  refine Ok.take h3 (by omega) fun to m4 a4 b4 h4 => ?_
  refine Ok.idx a4 b4 fun kt hkt ekt => ?_
  refine Ok.take h4 (by decide) fun r5 m5 a5 b5 h5 => ?_
  refine Ok.idx a5 (by simpa using b5) fun hi hhi _ => ?_
  have hhi2 : 2 ≤ hi ∧ hi ≤ 8 := by
   simp only [List.mem_cons,List.not_mem_nil,or_false] at hhi
   omega
  refine Ok.take h5 (by decide) fun r6 m6 _ _ h6 => ?_
  have skt := (hk kt hkt).2.2.1
  refine Ok.bind (P := VF) (Ok.ite (fun _ => Ok.mk (Qpy (by decide) skt (by omega))) (fun _ => Ok.mk (Qpy (by decide) skt (by omega)))) fun f hf => ?_
  refine Ok.rm (by simp) ?_
  refine Ok.idx a4 b4 fun kt1 hkt1 _ => ?_
  refine (Qol (by have := (hk _ hkt1).1; omega)).bind fun c hc => ?_
  refine Ok.opt (P := fun r : Int × Qv => MOk r.2) (fun h => (QdR h6 (by decide)).weak fun r h => h.2.2) fun r7 h7 => ?_
  have m7 : MOk (bif (decide (c ≥ (0:Int))) == true then r7.2 else m6) := Qds (fun h => h7 (by rw [h]; rfl)) h6
  refine Ok.bind (P := fun p : List Qb => p.length ≤ 3 ∧ ∀ f ∈ p,VF f) (Ok.ite (fun h => ?_) (fun _ => Ok.mk ⟨by simp,?_⟩)) fun fs hfs => ?_
  ·simp only [Bool.and_eq_true,decide_eq_true_eq] at h
   refine Ok.idx a4 b4 fun kt2 hkt2 ekt2 => ?_
   have e : kt2 = kt1 := by simp_all
   subst e
   refine Ok.idx h.1 hc.2 fun g hg _ => Ok.rm (by simp) (Ok.mk ⟨by simp,?_⟩)
   have sg := ((hk _ hkt1).2.1 g hg).name
   intro x hx
   simp only [List.nil_append,List.cons_append,List.mem_cons,List.not_mem_nil,or_false] at hx
   rcases hx with rfl | rfl | rfl
   ·exact hid2
   ·exact hf
   ·exact QuQ (by decide) sg (by decide)
  ·intro x hx
   simp only [List.nil_append,List.cons_append,List.mem_cons,List.not_mem_nil,or_false] at hx
   rcases hx with rfl | rfl
   ·exact hid2
   ·exact hf
  ·refine Ok.idx a4 b4 fun kt3 hkt3 ekt3 => ?_
   refine (Qiq (by have := (hk _ hkt3).1; omega)).bind fun tot htot => ?_
   refine Ok.opt (P := fun r : Int × Qv => MOk r.2) (fun h => (QdR m7 (by decide)).weak fun r h => h.2.2) fun r8 h8 => ?_
   have m8 : MOk (bif (decide (tot < (0:Int))) == true then r8.2 else (bif (decide (c ≥ (0:Int))) == true then r7.2 else m6)) := Qds (fun h => h8 (by rw [h]; rfl)) m7
   refine Ok.bind (P := fun p : Qv × List Qb × List Qi => MOk p.1 ∧ (p.2.1.length ≤ 4 ∧ (l.length = 0 → p.2.1.length ≤ 1)) ∧ (∀ f ∈ p.2.1,VF f) ∧ p.2.2.length = l.length ∧ ∀ k ∈ p.2.2,KV (N + 1) k)
    (Ok.ite (fun h => ?_) (fun _ => Ok.mk ⟨m8,⟨by have := hfs.1; dsimp only; omega,fun h0 => by omega⟩,hfs.2,rfl,fun k h => (hk k h).weak (by omega)⟩)) fun p hp => Ok.mk hp
   refine Ok.take m8 (by decide) fun r9 m9 a9 b9 h9 => Ok.take h9 (by decide) fun r10 m10 a10 b10 h10 => ?_
   refine Ok.rm (by have := hfs.1; simp; omega) ?_
   refine Ok.idx a4 b4 fun kt4 hkt4 ekt4 => ?_
   have hk4 := hk _ hkt4
   have hk41 := hk4.1
   refine Ok.rm (by simp; omega) (Ok.rm (by simp; omega) ?_)
   refine Ok.idx a4 b4 fun kt5 hkt5 ekt5 => ?_
   have e : kt5 = kt4 := by simp_all
   subst e
   refine Ok.setAt a4 b4 (Ok.mk ⟨h10,⟨?_,fun h0 => by omega⟩,?_,?_,?_⟩)
   ·have := hfs.1; simp; omega
   ·intro x hx
    rcases List.mem_append.1 hx with hx | hx
    ·exact hfs.2 x hx
    ·rw [List.mem_singleton] at hx; subst hx
     rw [w64 (n := r9 + r10) (by omega) (by omega)]
     exact Qta (by decide) (by decide) (by decide) (by omega)
   ·simp
   ·intro k hkm
    rcases List.mem_or_eq_of_mem_set hkm with hkm | rfl
    ·exact (hk k hkm).weak (by omega)
    ·refine ⟨?_,?_,hk4.2.2⟩
     ·simp; omega
     ·intro x hx
      rcases List.mem_append.1 hx with hx | hx
      ·exact hk4.2.1 x (by simpa using hx)
      ·rw [List.mem_singleton] at hx; subst hx; exact vf_sum (by decide) hsn
 ·obtain ⟨q1,⟨q2,q6⟩,q3,q4,q5⟩ := hp
  refine Ok.opt (P := fun r : Int × Qv => MOk r.2) (fun h => (QdR q1 (by decide)).weak fun r h => h.2.2) fun r11 h11 => ?_
  have m11 : MOk (bif (decide ((l.length : Int) > (1:Int))) == true then r11.2 else p.1) := Qds (fun h => h11 (by rw [h]; rfl)) q1
  refine Ok.bind (P := fun p : List Qb => (p.length ≤ 5 ∧ (l.length ≤ 1 → p.length ≤ 4) ∧ (l.length = 0 → p.length ≤ 1)) ∧ ∀ f ∈ p,VF f) (Ok.ite (fun h => ?_) (fun _ => Ok.mk ⟨⟨by omega,fun _ => q2,q6⟩,q3⟩)) fun fs hfs => ?_
  ·simp only [Bool.and_eq_true,decide_eq_true_eq] at h
   refine Ok.idx (by decide) (by omega) fun k0 hk0 _ => Ok.rm (by simp; omega) (Ok.mk ⟨⟨by simp; omega,fun h1 => by omega,fun h1 => by omega⟩,?_⟩)
   intro x hx
   rcases List.mem_append.1 hx with hx | hx
   ·exact q3 x hx
   ·rw [List.mem_singleton] at hx; subst hx; exact Qpy (by decide) (q5 k0 hk0).2.2.1 (by decide)
  ·refine (Qqq m11).bind fun r12 h12 => ?_
   obtain ⟨c1,c2,c3⟩ := h12
   obtain ⟨⟨f1,f3,f4⟩,f2⟩ := hfs
   refine Ok.rm (by omega) ?_
   refine Ok.take c3 (by decide) fun r13 m13 _ _ h13 => ?_
   have all7 : ∀ f ∈ fs ++ r12.1,VF f := fun x hx => (List.mem_append.1 hx).elim (f2 x) (c2 x)
   have len7 : (fs ++ r12.1).length ≤ 7 ∧ (l.length ≤ 1 → (fs ++ r12.1).length ≤ 6) ∧ (l.length = 0 → (fs ++ r12.1).length ≤ 3) := by
    rw [List.length_append]
    exact ⟨by omega,fun h => by have := f3 h; omega,fun h => by have := f4 h; omega⟩
   obtain ⟨len7,len6,len3⟩ := len7
   have eh : IntKind.i64.wrap (lo + r2) = lo + r2 := w64 (by omega) (by omega)
   refine Ok.bind (P := fun p : Qv × List Qb => MOk p.1 ∧ (p.2.length ≤ 9 ∧ (l.length ≤ 1 → p.2.length ≤ 8) ∧ (l.length = 0 → p.2.length ≤ 5)) ∧ ∀ f ∈ p.2,VF f) (Ok.ite (fun h => ?_) (fun _ => Ok.mk ⟨h13,⟨by dsimp only; omega,fun h => by have := len6 h; dsimp only; omega,fun h => by have := len3 h; dsimp only; omega⟩,all7⟩)) fun p52 hp52 => Ok.mk ⟨⟨⟨hp52.2.1.1,hp52.2.2,hsn,?_⟩,fun h => ⟨hp52.2.1.2.1 h,hp52.2.2,hsn,?_⟩,fun h => ⟨hp52.2.1.2.2 h,hp52.2.2,hsn,?_⟩⟩,hp52.1,q4,q5⟩
   rotate_left
   ·dsimp only; rw [eh]; omega
   ·dsimp only; rw [eh]; omega
   ·dsimp only; rw [eh]; omega
   refine (Qqq h13).bind fun r14 h14 => ?_
   obtain ⟨d1,d2,d3⟩ := h14
   refine Ok.opt (P := fun _ => True) (fun h => ?_) fun g _ => ?_
   ·have h' : (r14.1.length : Int) > 0 := by simpa using h
    exact (Ok.idx (by decide) (by omega) fun v _ _ => Ok.mk trivial : Ok ((idx r14.1 0).bind some) _).weak (fun _ h => h) |> fun h => by simpa using h
   refine Ok.opt (P := fun _ => True) (fun h => (Qiq (by omega)).weak fun _ _ => trivial) fun g2 _ => ?_
   refine Ok.bind (P := fun p : List Qb => (p.length ≤ 9 ∧ (l.length ≤ 1 → p.length ≤ 8) ∧ (l.length = 0 → p.length ≤ 5)) ∧ ∀ f ∈ p,VF f) (Ok.ite (fun h => Ok.rm (by omega) (Ok.mk ⟨⟨by rw [List.length_append]; omega,fun h => by rw [List.length_append]; have := len6 h; omega,fun h => by rw [List.length_append]; have := len3 h; omega⟩,fun x hx => (List.mem_append.1 hx).elim (all7 x) (d2 x)⟩)) (fun _ => Ok.mk ⟨⟨by omega,fun h => by have := len6 h; omega,fun h => by have := len3 h; omega⟩,all7⟩)) fun p64 hp64 => Ok.mk ⟨d3,hp64.1,hp64.2⟩

end Go.Proofs.YtcdccjagknlmpaaGreatDoor

namespace Go.Proofs.YtcdccjagknlmpaaGreatDoor
open Go.Sim

theorem Qop {s : Str} (h : Q1 s = true) : ∀ c ∈ s,(QfC (c.toNat : Int) || Qka (c.toNat : Int)) = true := by
 unfold Q1 at h
 simp only [Bool.and_eq_true] at h
 intro c hc
 have h3 := h.2.2
 unfold QP at h3
 rw [List.all_map] at h3
 exact List.all_eq_true.1 h3 c hc
theorem QlE {a r : Str} (ha : Q1 a = true) (hl : a.length ≤ 10) (hr : r.length = 1) (hm : ∀ c ∈ r,(QfC (c.toNat : Int) || Qka (c.toNat : Int)) = true) : Q1 (a ++ r) = true := by
 cases a with
 | nil => cases ha
 | cons b a =>
  have hall := Qop ha
  unfold Q1 at ha ⊢
  simp only [Bool.and_eq_true,List.cons_append] at ha ⊢
  refine ⟨Qhs (by simp only [List.length_cons,List.length_append] at hl ⊢; omega),ha.2.1,?_⟩
  unfold QP
  rw [List.all_map,List.all_eq_true]
  intro c hc
  rw [← List.cons_append] at hc
  rcases List.mem_append.1 hc with hc | hc
  ·exact hall c hc
  ·exact hm c hc
theorem QuR {m : Qv} {k : Qi} (hm : MOk m) (hk : KV 9 k) : Ok (Qbh m k) (fun r => (r.2.1 = true → Qev r.1 = true) ∧ MOk r.2.2) := by
 unfold Qbh
 obtain ⟨k1,k2,ks,_⟩ := hk
 have kl := QfV ks
 have k0 : 1 ≤ k.Name.length := by
  unfold Q1 at ks
  simp only [Bool.and_eq_true] at ks
  have := (Qcw ks.1).1
  omega
 refine (Qiq (by omega)).bind fun a ha => (Qiq (by omega)).bind fun b hb => ?_
 refine Ok.opt (P := fun r : Int × Qv => MOk r.2) (fun h => (QdR hm (by decide)).weak fun r h => h.2.2) fun r1 h1 => ?_
 have m1 : MOk (bif (decide (a ≥ (0:Int))) == true then r1.2 else m) := Qds (fun h => h1 (by rw [h]; rfl)) hm
 have nm : ∀ {β : Type} {Q : β → Prop} {f : Str → Option β},(∀ r : Str,r.length = 1 → (∀ c ∈ r,(QfC (c.toNat : Int) || Qka (c.toNat : Int)) = true) → Ok (f r) Q) → Ok ((sub k.Name 0 1).bind f) Q :=
  fun h => Ok.sub (by decide) (by decide) (by omega) fun r hr hrm => h r (by simpa using hr) fun c hc => Qop ks c (hrm c hc)
 have fin : ∀ {n a b : Str} {v : Int},Q1 n = true → ((a == []) || Q1 a) = true → ((b == []) || Q1 b) = true → (a ++ b != []) = true → -2000 ≤ v ∧ v ≤ 2000 → Qev ⟨n,k.Name,a,b,v⟩ = true := fun h1 h2 h3 h4 h5 => by
  unfold Qev
  simp only [h1,ks,h2,h3,h4,Bool.true_and,Bool.and_self]
  exact Qhs (by omega)
 refine Ok.ite (fun _ => nm fun r hr hm => Ok.cat (by simp; omega) (Ok.take m1 (by decide) fun v m2 a2 b2 h2 => Ok.mk ⟨fun _ => ?_,h2⟩)) (fun _ => ?_)
 ·dsimp only
  rw [w64 (n := v - 2) (by omega) (by omega)]
  exact fin (QlE (by decide) (by decide) hr hm) (by decide) (by decide) (by decide) (by omega)
 refine Ok.ite (fun _ => Ok.mk ⟨fun h => (by cases h),m1⟩) (fun h => ?_)
 have hb0 : ¬ b < 0 := of_decide_eq_false h
 refine Ok.idx (by omega) hb.2 fun f hf _ => Ok.take m1 (by decide) fun r2 m2 _ _ h2 => ?_
 obtain ⟨_,_,hlo,hhi⟩ := k2 f hf
 refine Ok.ite (fun _ => nm fun r hr hm => Ok.cat (by simp; omega) (Ok.take h2 (by decide) fun v m2 a2 b2 h2 => Ok.mk ⟨fun _ => ?_,h2⟩)) (fun _ => nm fun r hr hm => Ok.cat (by simp; omega) (Ok.take h2 (by decide) fun v m2 a2 b2 h2 => Ok.mk ⟨fun _ => ?_,h2⟩))
 ·dsimp only
  rw [w64 (n := f.Lo + v) (by omega) (by omega)]
  exact fin (QlE (by decide) (by decide) hr hm) (by decide) (by decide) (by decide) (by omega)
 ·dsimp only
  rw [w64 (n := v - f.Hi) (by omega) (by omega)]
  exact fin (QlE (by decide) (by decide) hr hm) (by decide) (by decide) (by decide) (by omega)

/-- How many fields a kind may have, when so many kinds are made. -/
def bdN (n : Nat) : Nat := if n ≤ 1 then 5 else if n ≤ 2 then 8 else 9
theorem Qtc {l : List Int} (hl : ∀ x ∈ l,I64 x) : Ok (Qbt l) (fun x => Tiny x ∧ QfX x = true ∧ ∀ k ∈ x.Kinds,KV 9 k) := by
 unfold Qbt
 refine Ok.sub (by decide) (by unfold imin; split <;> omega) (by unfold imin; split <;> omega) fun w _ hw => ?_
 have h0 : MOk (Qv.mk w 0) := fun x hx => hl x (hw x hx)
 refine Ok.take h0 (by decide) fun v m1 av bv h1 => Ok.take h1 (by decide) fun n m2 a2 b2 h2 => ?_
 have en : IntKind.i64.wrap (1 + n) = 1 + n := w64 (by omega) (by omega)
 refine Ok.bind (P := fun p : List Qi × Qv => p.1.length = 1 + n ∧ (∀ k ∈ p.1,KV 9 k) ∧ MOk p.2)
  (Ok.loop (fun k s => 0 ≤ s.1 ∧ s.1 + k = 1 + n ∧ s.2.1.length = s.1 ∧ (∀ q ∈ s.2.1,KV (bdN s.1.toNat) q) ∧ MOk s.2.2) (1 + n).toNat ⟨Int.le_refl _,by dsimp only; omega,by simp,by simp,h2⟩ fun k s hs => ?_) (fun p hp => ?_)
 ·obtain ⟨i,ks,m3⟩ := s
  obtain ⟨e1,e2,e3,e4,e5⟩ := hs
  dsimp only at e1 e2 e3 e4 e5
  have hbd : bdN i.toNat ≤ 9 := by unfold bdN; split <;> (try split) <;> omega
  refine Ok.ite (fun h => ?_) (fun h => ?_)
  ·have h' : i < 1 + n := by have := of_decide_eq_true h; rwa [en] at this
   refine (Qqs (N := bdN i.toNat) e5 (by omega) (by omega) e4).bind fun r hr => ?_
   obtain ⟨⟨r1,r5,r6⟩,r2,r3,r4⟩ := hr
   refine Ok.rm (by simp; omega) (Ok.mk ?_)
   have ei : IntKind.i64.wrap (i + 1) = i + 1 := w64 (by omega) (by omega)
   refine ⟨k - 1,by omega,?_⟩
   dsimp only
   rw [ei]
   refine ⟨by omega,by omega,by simp; omega,fun q hq => ?_,r2⟩
   have hi : i = 0 ∨ i = 1 ∨ i = 2 := by omega
   rcases List.mem_append.1 hq with hq | hq
   ·refine (r4 q hq).weak ?_
    rcases hi with rfl | rfl | rfl
    ·have : ks.length = 0 := by omega
     rw [List.length_eq_zero_iff.1 (by rw [r3,this] : r.2.2.length = 0)] at hq
     cases hq
    ·decide
    ·decide
   ·rw [List.mem_singleton] at hq; subst hq
    rcases hi with rfl | rfl | rfl
    ·exact r6 (by omega)
    ·exact r5 (by omega)
    ·exact r1
  ·have h' : ¬ i < 1 + n := by have := of_decide_eq_false h; rwa [en] at this
   refine Ok.mk ⟨by dsimp only; omega,fun q hq => (e4 q hq).weak hbd,e5⟩
 obtain ⟨p1,p2,p3⟩ := hp
 refine Ok.take p3 (by decide) fun t m4 a4 b4 h4 => ?_
 have et : IntKind.i64.wrap (2 + t) = 2 + t := w64 (by omega) (by omega)
 refine Ok.sub (by decide) (by dsimp only; rw [et]; omega) (by dsimp only; rw [et]; simp; omega) fun st hst hsm => ?_
 dsimp only at hst
 rw [et] at hst
 have hsl : 2 ≤ st.length ∧ st.length ≤ 4 := by omega
 have hsn : st.all Q1 = true := by
  rw [List.all_eq_true]
  intro s hs
  have := hsm s hs
  simp only [List.mem_cons,List.not_mem_nil,or_false] at this
  rcases this with rfl | rfl | rfl | rfl <;> decide
 have mv : ∀ {a b : Int},0 ≤ a ∧ a < st.length → 0 ≤ b ∧ b < st.length → QeM (st.length : Int) ⟨a,b⟩ = true := fun h1 h2 => by
  unfold QeM
  rw [Qhs (by dsimp only; omega),Qhs (by dsimp only; omega)]; rfl
 refine Ok.bind (P := fun p : List QJ => p.length ≤ 3 ∧ ∀ m ∈ p,QeM (st.length : Int) m = true) (Ok.loop (fun k s => 0 ≤ s.1 ∧ s.1 + 1 + k = st.length ∧ s.2.length = s.1 ∧ ∀ m ∈ s.2,QeM (st.length : Int) m = true) (st.length - 1) ⟨Int.le_refl _,by dsimp only; omega,by simp,by simp⟩ fun k s hs => ?_) (fun mvs hmv => ?_)
 ·obtain ⟨i,ms⟩ := s
  obtain ⟨e1,e2,e3,e4⟩ := hs
  dsimp only at e1 e2 e3 e4
  have ei : IntKind.i64.wrap (i + 1) = i + 1 := w64 (by omega) (by omega)
  refine Ok.ite (fun h => ?_) (fun h => ?_)
  ·have h' : i + 1 < st.length := by have := of_decide_eq_true h; rwa [ei] at this
   refine Ok.rm (by simp; omega) (Ok.mk ⟨k - 1,by omega,?_⟩)
   dsimp only
   rw [ei]
   refine ⟨by omega,by omega,by simp; omega,fun q hq => ?_⟩
   rcases List.mem_append.1 hq with hq | hq
   ·exact e4 q hq
   ·rw [List.mem_singleton] at hq; subst hq; exact mv (by omega) (by omega)
  ·have h' : ¬ i + 1 < st.length := by have := of_decide_eq_false h; rwa [ei] at this
   exact Ok.mk ⟨by dsimp only; omega,e4⟩
 obtain ⟨hmv,hmm⟩ := hmv
 have addm : ∀ {ms : List QJ} {m : QJ},(∀ q ∈ ms,QeM (st.length : Int) q = true) → QeM (st.length : Int) m = true → ∀ q ∈ ms ++ [m],QeM (st.length : Int) q = true := fun h1 h2 q hq => by
  rcases List.mem_append.1 hq with hq | hq
  ·exact h1 q hq
  ·rw [List.mem_singleton] at hq; subst hq; exact h2
 refine Ok.take h4 (by decide) fun r5 m5 _ _ h5 => ?_
 refine Ok.bind (P := fun p : List QJ => p.length ≤ 4 ∧ ∀ m ∈ p,QeM (st.length : Int) m = true) (Ok.ite (fun _ => Ok.rm (by simp; omega) (Ok.mk ⟨by simp; omega,addm hmm (mv (by omega) (by omega))⟩)) (fun _ => Ok.mk ⟨by omega,hmm⟩)) fun mv2 hmv2 => ?_
 obtain ⟨hmv2,hmm2⟩ := hmv2
 refine Ok.take h5 (by decide) fun r6 m6 _ _ h6 => ?_
 have es : IntKind.i64.wrap ((st.length : Int) - 1) = (st.length : Int) - 1 := w64 (by omega) (by omega)
 refine Ok.bind (P := fun p : List QJ => p.length ≤ 5 ∧ ∀ m ∈ p,QeM (st.length : Int) m = true) (Ok.ite (fun _ => Ok.rm (by simp; omega) (Ok.mk ⟨by simp; omega,by rw [es]; exact addm hmm2 (mv (by omega) (by omega))⟩)) (fun _ => Ok.mk ⟨by omega,hmm2⟩)) fun mv3 hmv3 => ?_
 obtain ⟨hmv3,hmm3⟩ := hmv3
 refine Ok.rm (by simp) ?_
 refine Ok.bind (P := fun p : List Qo => p.length ≤ 2 ∧ ∀ r ∈ p,Qev r = true) (Ok.loop (fun k s => 0 ≤ s.1 ∧ s.1 + k = 1 + n ∧ (s.2.1.length ≤ 2 ∧ ∀ r ∈ s.2.1,Qev r = true) ∧ MOk s.2.2) (1 + n).toNat ⟨Int.le_refl _,by dsimp only; omega,by simp,h6⟩ fun k s hs => ?_) (fun rs hrs => ?_)
 ·obtain ⟨i,rs,m7⟩ := s
  obtain ⟨e1,e2,e3,e4⟩ := hs
  dsimp only at e1 e2 e3 e4
  refine Ok.ite (fun h => ?_) (fun h => Ok.mk e3)
  simp only [Bool.and_eq_true,decide_eq_true_eq,en] at h
  refine Ok.idx e1 (by omega) fun q hq _ => (QuR e4 (p2 q hq)).bind fun r hr => ?_
  refine Ok.bind (P := fun p : List Qo => p.length ≤ 2 ∧ ∀ r ∈ p,Qev r = true) (Ok.ite (fun hy => Ok.rm (by simp; omega) (Ok.mk ⟨by simp; omega,fun y hy2 => (List.mem_append.1 hy2).elim (e3.2 y) fun hy3 => by rw [List.mem_singleton] at hy3; subst hy3; exact hr.1 hy⟩)) (fun _ => Ok.mk e3)) fun rs2 hrs2 => Ok.mk ⟨k - 1,by omega,?_⟩
  dsimp only
  rw [w64 (n := i + 1) (by omega) (by omega)]
  exact ⟨by omega,by omega,hrs2,hr.2⟩
 ·refine Ok.mk ⟨⟨by dsimp only; omega,fun k hk f hf => ((p2 k hk).2.1 f hf).2.1,by simp,?_,hrs.1⟩,?_,p2⟩
  ·intro q hq
   simp only [List.nil_append,List.mem_singleton] at hq
   subst hq
   exact ⟨by dsimp only; omega,by dsimp only; omega⟩
  ·have hk : p.1.all Qec = true := by
    rw [List.all_eq_true]
    intro k hk
    obtain ⟨c1,c2,c3,c4⟩ := p2 k hk
    unfold Qec
    simp only [Bool.and_eq_true,decide_eq_true_eq,List.all_eq_true]
    exact ⟨⟨⟨c3,Qi6 c4⟩,by omega⟩,fun f hf => (c2 f hf).1⟩
   have hlf : Qgl ⟨[108,105,102,101],st,mv3⟩ = true := by
    unfold Qgl
    simp only [Bool.and_eq_true,decide_eq_true_eq]
    exact ⟨⟨⟨⟨by decide,Qhs (by omega)⟩,hsn⟩,by omega⟩,List.all_eq_true.2 hmm3⟩
   unfold QfX
   simp only [Bool.and_eq_true,decide_eq_true_eq]
   refine ⟨⟨⟨⟨⟨⟨Qhs (by omega),by omega⟩,by simp⟩,by have := hrs.1; omega⟩,hk⟩,?_⟩,List.all_eq_true.2 hrs.2⟩
   simp [hlf]

end Go.Proofs.YtcdccjagknlmpaaGreatDoor

namespace Go.Proofs.YtcdccjagknlmpaaGreatDoor
open Go.Sim

/-- The kinds that the generator makes, one after the other. -/
inductive QbF : List Ks → Prop
 | nil : QbF []
 | snoc {T : List Ks} {q : Ks} {T' : List Ks} (h : QbF T) (hl : T.length ≤ 2) (hn : Qir[T.length]? = some q.1) (hk : Qed T q T') : QbF (T' ++ [q])
/-- The rules, each of another kind. -/
def Qis (K : List Qi) (i : Int) (R : List Qo) : Prop :=
 ∃ ps : List (Nat × Qo),ps.map Prod.snd = R ∧ (ps.map Prod.fst).Pairwise (· < ·) ∧ ∀ p ∈ ps,(p.1 : Int) < i ∧ ∃ k,K[p.1]? = some k ∧ QqV (ks k) p.2
theorem Qtd {l : List Int} (hl : ∀ x ∈ l,I64 x) : Ok (Qbt l) (fun x => (QbF (x.Kinds.map ks) ∧ (∀ k ∈ x.Kinds,k.Hi - k.Lo ≤ 29) ∧ 1 ≤ x.Kinds.length) ∧ (∃ L,x.Lives = [L] ∧ L.Name = [108,105,102,101]) ∧ ∃ n,Qis x.Kinds n x.Rules) := by
 unfold Qbt
 refine Ok.sub (by decide) (by unfold imin; split <;> omega) (by unfold imin; split <;> omega) fun w _ hw => ?_
 have h0 : MOk (Qv.mk w 0) := fun x hx => hl x (hw x hx)
 refine Ok.take h0 (by decide) fun v m1 av bv h1 => Ok.take h1 (by decide) fun n m2 a2 b2 h2 => ?_
 have en : IntKind.i64.wrap (1 + n) = 1 + n := w64 (by omega) (by omega)
 refine Ok.bind (P := fun p : List Qi × Qv => (p.1.length = 1 + n ∧ (∀ k ∈ p.1,KV 9 k) ∧ MOk p.2) ∧ QbF (p.1.map ks) ∧ ∀ k ∈ p.1,k.Hi - k.Lo ≤ 29)
  (Ok.loop (fun k s => (0 ≤ s.1 ∧ s.1 + k = 1 + n ∧ s.2.1.length = s.1 ∧ (∀ q ∈ s.2.1,KV (bdN s.1.toNat) q) ∧ MOk s.2.2) ∧ QbF (s.2.1.map ks) ∧ ∀ k ∈ s.2.1,k.Hi - k.Lo ≤ 29) (1 + n).toNat ⟨⟨Int.le_refl _,by dsimp only; omega,by simp,by simp,h2⟩,QbF.nil,by simp⟩ fun k s hs => ?_) (fun p hp => ?_)
 ·obtain ⟨i,ks',m3⟩ := s
  obtain ⟨⟨e1,e2,e3,e4,e5⟩,e6,e7⟩ := hs
  dsimp only at e1 e2 e3 e4 e5 e6 e7
  have hbd : bdN i.toNat ≤ 9 := by unfold bdN; split <;> (try split) <;> omega
  refine Ok.ite (fun h => ?_) (fun h => ?_)
  ·have h' : i < 1 + n := by have := of_decide_eq_true h; rwa [en] at this
   refine (Ok.and (Qqs (N := bdN i.toNat) e5 (by omega) (by omega) e4) (kind_w (N := bdN i.toNat) e5 (by omega) (by omega) (fun q hq => (e4 q hq).1) e7)).bind fun r hr => ?_
   obtain ⟨⟨⟨r1,r5,r6⟩,r2,r3,r4⟩,⟨w1,w2⟩,⟨_,w3⟩,w4⟩ := hr
   refine Ok.rm (by simp; omega) (Ok.mk ?_)
   have ei : IntKind.i64.wrap (i + 1) = i + 1 := w64 (by omega) (by omega)
   refine ⟨k - 1,by omega,?_⟩
   dsimp only
   rw [ei]
   refine ⟨⟨by omega,by omega,by simp; omega,fun q hq => ?_,r2⟩,?_,fun q hq => ?_⟩
   ·have hi : i = 0 ∨ i = 1 ∨ i = 2 := by omega
    rcases List.mem_append.1 hq with hq | hq
    ·refine (r4 q hq).weak ?_
     rcases hi with rfl | rfl | rfl
     ·have : ks'.length = 0 := by omega
      rw [List.length_eq_zero_iff.1 (by rw [r3,this] : r.2.2.length = 0)] at hq
      cases hq
     ·decide
     ·decide
    ·rw [List.mem_singleton] at hq; subst hq
     rcases hi with rfl | rfl | rfl
     ·exact r6 (by omega)
     ·exact r5 (by omega)
     ·exact r1
   ·rw [List.map_append]
    exact QbF.snoc e6 (by rw [List.length_map]; omega) (by rw [List.length_map]; exact w1) w4
   ·rcases List.mem_append.1 hq with hq | hq
    ·exact w3 q hq
    ·rw [List.mem_singleton] at hq; subst hq; exact w2
  ·have h' : ¬ i < 1 + n := by have := of_decide_eq_false h; rwa [en] at this
   exact Ok.mk ⟨⟨by dsimp only; omega,fun q hq => (e4 q hq).weak hbd,e5⟩,e6,e7⟩
 obtain ⟨⟨p1,p2,p3⟩,p4,p5⟩ := hp
 refine Ok.take p3 (by decide) fun t m4 a4 b4 h4 => ?_
 have et : IntKind.i64.wrap (2 + t) = 2 + t := w64 (by omega) (by omega)
 refine Ok.sub (by decide) (by dsimp only; rw [et]; omega) (by dsimp only; rw [et]; simp; omega) fun st hst hsm => ?_
 dsimp only at hst
 rw [et] at hst
 have hsl : 2 ≤ st.length ∧ st.length ≤ 4 := by omega
 refine Ok.bind (P := fun p : List QJ => p.length ≤ 3) (Ok.loop (fun k s => 0 ≤ s.1 ∧ s.1 + 1 + k = st.length ∧ s.2.length = s.1) (st.length - 1) ⟨Int.le_refl _,by dsimp only; omega,by simp⟩ fun k s hs => ?_) (fun mvs hmv => ?_)
 ·obtain ⟨i,ms⟩ := s
  obtain ⟨e1,e2,e3⟩ := hs
  dsimp only at e1 e2 e3
  have ei : IntKind.i64.wrap (i + 1) = i + 1 := w64 (by omega) (by omega)
  refine Ok.ite (fun h => ?_) (fun h => ?_)
  ·have h' : i + 1 < st.length := by have := of_decide_eq_true h; rwa [ei] at this
   refine Ok.rm (by simp; omega) (Ok.mk ⟨k - 1,by omega,?_⟩)
   dsimp only
   rw [ei]
   exact ⟨by omega,by omega,by simp; omega⟩
  ·have h' : ¬ i + 1 < st.length := by have := of_decide_eq_false h; rwa [ei] at this
   exact Ok.mk (by dsimp only; omega)
 refine Ok.take h4 (by decide) fun r5 m5 _ _ h5 => ?_
 refine Ok.bind (P := fun p : List QJ => p.length ≤ 4) (Ok.ite (fun _ => Ok.rm (by simp; omega) (Ok.mk (by simp; omega))) (fun _ => Ok.mk (by omega))) fun mv2 hmv2 => ?_
 refine Ok.take h5 (by decide) fun r6 m6 _ _ h6 => ?_
 refine Ok.bind (P := fun p : List QJ => p.length ≤ 5) (Ok.ite (fun _ => Ok.rm (by simp; omega) (Ok.mk (by simp; omega))) (fun _ => Ok.mk (by omega))) fun mv3 hmv3 => ?_
 refine Ok.rm (by simp) ?_
 refine Ok.bind (P := fun R : List Qo => ∃ n,Qis p.1 n R) (Ok.loop (fun k s => 0 ≤ s.1 ∧ s.1 + k = 1 + n ∧ (s.2.1.length ≤ 2 ∧ Qis p.1 s.1 s.2.1) ∧ MOk s.2.2) (1 + n).toNat ⟨Int.le_refl _,by dsimp only; omega,⟨by simp,[],rfl,by simp,by simp⟩,h6⟩ fun k s hs => ?_) (fun rs hrs => ?_)
 ·obtain ⟨i,rs,m7⟩ := s
  obtain ⟨e1,e2,e3,e4⟩ := hs
  dsimp only at e1 e2 e3 e4
  refine Ok.ite (fun h => ?_) (fun h => Ok.mk ⟨i,e3.2⟩)
  simp only [Bool.and_eq_true,decide_eq_true_eq,en] at h
  refine Ok.idx e1 (by omega) fun q hq eq => ?_
  obtain ⟨k1,_,ksn,_⟩ := p2 q hq
  have kl := QfV ksn
  have k0 : 1 ≤ q.Name.length := by
   unfold Q1 at ksn
   simp only [Bool.and_eq_true] at ksn
   have := (Qcw ksn.1).1
   omega
  refine (rule_w e4 (by omega) k0 (by omega)).bind fun r hr => ?_
  have wk : Qis p.1 (i + 1) rs := by
   obtain ⟨ps,g1,g2,g3⟩ := e3.2
   exact ⟨ps,g1,g2,fun z hz => ⟨by have := (g3 z hz).1; omega,(g3 z hz).2⟩⟩
  refine Ok.bind (P := fun R : List Qo => R.length ≤ 2 ∧ Qis p.1 (i + 1) R) (Ok.ite (fun hy => Ok.rm (by simp; omega) (Ok.mk ⟨by simp; omega,?_⟩)) (fun _ => Ok.mk ⟨e3.1,wk⟩)) fun rs2 hrs2 => Ok.mk ⟨k - 1,by omega,?_⟩
  ·obtain ⟨ps,g1,g2,g3⟩ := e3.2
   refine ⟨ps ++ [(i.toNat,r.1)],by rw [List.map_append,g1]; rfl,?_,fun z hz => ?_⟩
   ·rw [List.map_append,List.pairwise_append]
    refine ⟨g2,by simp,fun a ha b hb => ?_⟩
    obtain ⟨z,hz,rfl⟩ := List.mem_map.1 ha
    simp only [List.map_cons,List.map_nil,List.mem_singleton] at hb
    subst hb
    have := (g3 z hz).1
    omega
   ·rcases List.mem_append.1 hz with hz | hz
    ·exact ⟨by have := (g3 z hz).1; omega,(g3 z hz).2⟩
    ·rw [List.mem_singleton] at hz; subst hz
     exact ⟨by dsimp only; omega,q,eq,hr.1 hy⟩
  ·dsimp only
   rw [w64 (n := i + 1) (by omega) (by omega)]
   exact ⟨by omega,by omega,hrs2,hr.2⟩
 ·exact Ok.mk ⟨⟨p4,p5,by dsimp only; omega⟩,⟨_,rfl,rfl⟩,hrs⟩

end Go.Proofs.YtcdccjagknlmpaaGreatDoor

namespace Go.Proofs.YtcdccjagknlmpaaGreatDoor
open Go.Sim

theorem QuS {T : List Ks} {i : Nat} {t : Ks} {F : List Sg} (h : T[i]? = some t) : (T.set i (t.1,F)).map Prod.fst = T.map Prod.fst := by
 rw [List.map_set]
 refine List.ext_getElem? fun j => ?_
 rw [List.getElem?_set]
 split
 ·rename_i e
  subst e
  have hi : i < T.length := (List.getElem?_eq_some_iff.1 h).1
  rw [if_pos (by simpa using hi),List.getElem?_map,h]
  rfl
 ·rfl
/-- A new kind leaves the earlier ones' names. -/
theorem Qed.names {T : List Ks} {q : Ks} {T' : List Ks} (h : Qed T q T') : T'.map Prod.fst = T.map Prod.fst := by
 obtain ⟨F,by',p1,p2,hp,_⟩ := h
 rcases hp with ⟨_,_,rfl⟩ | ⟨to,t,cp,pt,ht,_,_,h⟩
 ·rfl
 ·rcases h with ⟨_,rfl⟩ | ⟨_,_,rfl⟩
  ·rfl
  ·exact QuS ht
/-- The kinds' names. -/
theorem QbF.names {T : List Ks} (h : QbF T) : T.length ≤ 3 ∧ T.map Prod.fst = Qir.take T.length := by
 induction h with
 | nil => exact ⟨by decide,rfl⟩
 | @snoc T q T' h hl hn hk ih =>
  have e := hk.names
  have el : T'.length = T.length := by simpa using congrArg List.length e
  rw [List.length_append,el]
  refine ⟨by simpa using hl,?_⟩
  rw [List.map_append,e,ih.2]
  simp only [List.length_cons,List.length_nil,Nat.zero_add]
  rw [List.take_add_one,hn]
  rfl

/-! The names of a kind's fields. -/

def presN : List (List Str) := [[sId.1],[sId.1,nOf],[sId.1,nOf,(QiS []).1],[sId.1,nOf,Qht.1],[sId.1,nOf,(QiS []).1,Qht.1]]
def bysN : List (List Str) := [[],[(sBy []).1]]
def Ql3 : List (List Str) := Qbb.map fun p => p.map Prod.fst
def QpA (l d : List Str) : Bool := match d with | [] => true | g :: _ => !(l.contains g)
set_option maxRecDepth 100000 in
set_option maxHeartbeats 4000000 in
theorem Qsa : (presN.all fun a => bysN.all fun b => Ql3.all fun c => Ql3.all fun d => !QpA (a ++ b ++ c) d || (decide (a ++ b ++ c ++ d).Nodup && !((a ++ b ++ c ++ d).contains QgB))) = true := by decide +kernel
theorem PreS.names {T : List Ks} {nm : Str} {F : List Sg} {T' : List Ks} (h : PreS T nm F T') : F.map Prod.fst ∈ presN := by
 rcases h with ⟨_,rfl,_⟩ | ⟨to,t,cp,pt,_,rfl,hc,hp⟩
 ·decide
 ·rcases hc with rfl | ⟨g,_,_,rfl⟩ <;> rcases hp with ⟨rfl,_⟩ | ⟨_,rfl,_⟩
  ·exact List.mem_cons_of_mem _ (List.mem_cons_self ..)
  ·exact List.mem_cons_of_mem _ (List.mem_cons_of_mem _ (List.mem_cons_of_mem _ (List.mem_cons_self ..)))
  ·exact List.mem_cons_of_mem _ (List.mem_cons_of_mem _ (List.mem_cons_self ..))
  ·exact List.mem_cons_of_mem _ (List.mem_cons_of_mem _ (List.mem_cons_of_mem _ (List.mem_cons_of_mem _ (List.mem_cons_self ..))))
/-- A new kind's fields have different names, none is 'total'. -/
theorem Qed.nodup {T : List Ks} {q : Ks} {T' : List Ks} (h : Qed T q T') : (q.2.map Prod.fst).Nodup ∧ QgB ∉ q.2.map Prod.fst := by
 obtain ⟨F,by',p1,p2,hp,hb,h1,h2,e⟩ := h
 have hb' : by'.map Prod.fst ∈ bysN := by
  rcases hb with rfl | ⟨_,t,_,rfl⟩
  ·exact List.mem_cons_self ..
  ·exact List.mem_cons_of_mem _ (List.mem_cons_self ..)
 have h1' : p1.map Prod.fst ∈ Ql3 := List.mem_map_of_mem h1
 have h2' : p2.map Prod.fst ∈ Ql3 := by
  rcases h2 with rfl | ⟨h2,_⟩
  ·decide
  ·exact List.mem_map_of_mem h2
 have hf : QpA (F.map Prod.fst ++ by'.map Prod.fst ++ p1.map Prod.fst) (p2.map Prod.fst) = true := by
  rcases h2 with rfl | ⟨_,h2⟩
  ·rfl
  ·cases p2 with
   | nil => rfl
   | cons g r =>
    unfold QpA
    simp only [List.map_cons,Bool.not_eq_true',← List.map_append]
    rw [List.contains_eq_mem,decide_eq_false_iff_not]
    intro hm
    obtain ⟨f,hf,e⟩ := List.mem_map.1 hm
    exact h2 g rfl f hf e
 have := List.all_eq_true.1 (List.all_eq_true.1 (List.all_eq_true.1 (List.all_eq_true.1 Qsa _ hp.names) _ hb') _ h1') _ h2'
 rw [hf] at this
 simp only [Bool.not_true,Bool.false_or,Bool.and_eq_true,decide_eq_true_eq,Bool.not_eq_true',List.contains_eq_mem,decide_eq_false_iff_not] at this
 rw [e]
 simp only [List.map_append]
 exact this

/-- The first field is the key, and the only one. -/
def Qsb (l : List Sg) : Prop := ∃ r,l = sId :: r ∧ ∀ f ∈ r,f.2.1 ≠ 0
theorem QnZ : (Qbb.all fun p => p.all fun f => decide (f.2.1 ≠ 0)) = true := by decide +kernel
theorem QkW {p : List Sg} (h : p ∈ Qbb) : ∀ f ∈ p,f.2.1 ≠ 0 := fun f hf => by
 have := List.all_eq_true.1 (List.all_eq_true.1 QnZ p h) f hf
 simpa using this
theorem Qed.headed {T : List Ks} {q : Ks} {T' : List Ks} (h : Qed T q T') : Qsb q.2 := by
 obtain ⟨F,by',p1,p2,hp,hb,h1,h2,e⟩ := h
 have hF : ∃ r,F = sId :: r ∧ ∀ f ∈ r,f.2.1 ≠ 0 := by
  rcases hp with ⟨_,rfl,_⟩ | ⟨to,t,cp,pt,_,rfl,hc,hp⟩
  ·exact ⟨[],rfl,by simp⟩
  ·refine ⟨_,rfl,fun f hf => ?_⟩
   rcases List.mem_cons.1 hf with rfl | hf
   ·show (1:Int) ≠ 0; decide
   ·rcases List.mem_append.1 hf with hf | hf
    ·rcases hc with rfl | ⟨g,_,_,rfl⟩
     ·cases hf
     ·rw [List.mem_singleton] at hf; subst hf; show (8:Int) ≠ 0; decide
    ·rcases hp with ⟨rfl,_⟩ | ⟨_,rfl,_⟩
     ·cases hf
     ·rw [List.mem_singleton] at hf; subst hf; show (7:Int) ≠ 0; decide
 obtain ⟨r,rfl,hr⟩ := hF
 refine ⟨r ++ by' ++ p1 ++ p2,by rw [e]; simp,fun f hf => ?_⟩
 rcases List.mem_append.1 hf with hf | hf
 ·rcases List.mem_append.1 hf with hf | hf
  ·rcases List.mem_append.1 hf with hf | hf
   ·exact hr f hf
   ·rcases hb with rfl | ⟨_,t,_,rfl⟩
    ·cases hf
    ·rw [List.mem_singleton] at hf; subst hf; show (1:Int) ≠ 0; decide
  ·exact QkW h1 f hf
 ·rcases h2 with rfl | ⟨h2,_⟩
  ·cases hf
  ·exact QkW h2 f hf
/-- All kinds: the fields' names are different, the first field is the key and the only one. -/
theorem QbF.fields {T : List Ks} (h : QbF T) : ∀ q ∈ T,(q.2.map Prod.fst).Nodup ∧ Qsb q.2 := by
 induction h with
 | nil => intro q hq; cases hq
 | @snoc T q T' h hl hn hk ih =>
  intro z hz
  rcases List.mem_append.1 hz with hz | hz
  ·obtain ⟨F,by',p1,p2,hp,_⟩ := hk
   rcases hp with ⟨_,_,rfl⟩ | ⟨to,t,cp,pt,ht,_,_,hp⟩
   ·exact ih z hz
   ·rcases hp with ⟨_,rfl⟩ | ⟨hno,_,rfl⟩
    ·exact ih z hz
    ·rcases List.mem_or_eq_of_mem_set hz with hz | rfl
     ·exact ih z hz
     ·obtain ⟨i1,r,i2,i3⟩ := ih t (List.mem_of_getElem? ht)
      refine ⟨?_,r ++ [Qhu q.1],?_,fun f hf => ?_⟩
      ·dsimp only
       rw [List.map_append,List.nodup_append]
       refine ⟨i1,by simp,fun a ha b hb => ?_⟩
       obtain ⟨g,hg,rfl⟩ := List.mem_map.1 ha
       simp only [List.map_cons,List.map_nil,List.mem_singleton] at hb
       subst hb
       exact hno g hg
      ·dsimp only
       rw [i2]; rfl
      ·rcases List.mem_append.1 hf with hf | hf
       ·exact i3 f hf
       ·rw [List.mem_singleton] at hf; subst hf; show (6:Int) ≠ 0; decide
  ·rw [List.mem_singleton] at hz; subst hz
   exact ⟨hk.nodup.1,hk.headed⟩

theorem QbF.name_at {T : List Ks} (h : QbF T) {i : Nat} {q : Ks} (e : T[i]? = some q) : Qir[i]? = some q.1 := by
 have e1 : (T.map Prod.fst)[i]? = some q.1 := by rw [List.getElem?_map,e]; rfl
 rw [h.names.2,List.getElem?_take] at e1
 split at e1
 ·exact e1
 ·cases e1
theorem Qn0 : (Qbb.all fun p => p.all fun f => decide (f.2.1 ≠ 1)) = true := by decide +kernel
/-- References go to earlier kinds. -/
def RefsS (i : Nat) (l : List Sg) : Prop := ∀ f ∈ l,f.2.1 = 1 → ∃ t : Nat,t < i ∧ Qir[t]? = some f.2.2.1
theorem Qed.refs {T : List Ks} {q : Ks} {T' : List Ks} (c : QbF T) (h : Qed T q T') : RefsS T.length q.2 := by
 have hn := h.names
 obtain ⟨F,by',p1,p2,hp,hb,h1,h2,e⟩ := h
 have pl : ∀ {p : List Sg},p ∈ Qbb → ∀ f ∈ p,f.2.1 ≠ 1 := fun h f hf => by
  have := List.all_eq_true.1 (List.all_eq_true.1 Qn0 _ h) f hf
  simpa using this
 intro f hf hk
 rw [e] at hf
 rcases List.mem_append.1 hf with hf | hf
 ·rcases List.mem_append.1 hf with hf | hf
  ·rcases List.mem_append.1 hf with hf | hf
   ·rcases hp with ⟨_,rfl,_⟩ | ⟨to,t,cp,pt,ht,rfl,hc,hp⟩
    ·rw [List.mem_singleton] at hf; subst hf; exact absurd hk (by decide)
    ·rcases List.mem_cons.1 hf with rfl | hf
     ·exact absurd hk (by decide)
     ·rcases List.mem_cons.1 hf with rfl | hf
      ·exact ⟨to,(List.getElem?_eq_some_iff.1 ht).1,c.name_at ht⟩
      ·rcases List.mem_append.1 hf with hf | hf
       ·rcases hc with rfl | ⟨g,_,_,rfl⟩
        ·cases hf
        ·rw [List.mem_singleton] at hf; subst hf; exact absurd (show (8:Int) = 1 from hk) (by decide)
       ·rcases hp with ⟨rfl,_⟩ | ⟨_,rfl,_⟩
        ·cases hf
        ·rw [List.mem_singleton] at hf; subst hf; exact absurd hk (by decide)
   ·rcases hb with rfl | ⟨hl,t,ht,rfl⟩
    ·cases hf
    ·rw [List.mem_singleton] at hf; subst hf
     have e0 : T.map Prod.fst = T'.map Prod.fst := hn.symm
     have e1 : (T'.map Prod.fst)[0]? = some t.1 := by rw [List.getElem?_map,ht]; rfl
     rw [← e0,List.getElem?_map] at e1
     cases h0 : T[0]? with
     | none => rw [h0] at e1; cases e1
     | some z =>
      rw [h0] at e1
      have := c.name_at h0
      exact ⟨0,by omega,this.trans e1⟩
  ·exact absurd hk (pl h1 f hf)
 ·rcases h2 with rfl | ⟨h2,_⟩
  ·cases hf
  ·exact absurd hk (pl h2 f hf)

theorem QbF.refs {T : List Ks} (h : QbF T) : ∀ (i : Nat) (q : Ks),T[i]? = some q → RefsS i q.2 := by
 induction h with
 | nil => intro i q h; simp at h
 | @snoc T q T' h hl hn hk ih =>
  intro i z hz
  have el : T'.length = T.length := by simpa using congrArg List.length hk.names
  by_cases hi : i < T'.length
  ·rw [List.getElem?_append_left hi] at hz
   obtain ⟨F,by',p1,p2,hp,_⟩ := hk
   rcases hp with ⟨_,_,rfl⟩ | ⟨to,t,cp,pt,ht,_,_,hp⟩
   ·exact ih i z hz
   ·rcases hp with ⟨_,rfl⟩ | ⟨hno,_,rfl⟩
    ·exact ih i z hz
    ·rw [List.getElem?_set] at hz
     split at hz
     ·rename_i e
      subst e
      split at hz
      ·cases hz
       intro f hf hk1
       rcases List.mem_append.1 hf with hf | hf
       ·exact ih _ t ht f hf hk1
       ·rw [List.mem_singleton] at hf; subst hf; exact absurd (show (6:Int) = 1 from hk1) (by decide)
      ·cases hz
     ·exact ih i z hz
  ·rw [List.getElem?_append_right (by omega)] at hz
   have e0 : i - T'.length = 0 := by
    cases hd : i - T'.length with
    | zero => rfl
    | succ n => rw [hd] at hz; simp at hz
   rw [e0] at hz
   cases hz
   rw [show i = T.length by omega]
   exact hk.refs h

theorem Qnt : (Qbb.all fun p => p.all fun f => decide (f.2.1 ≠ 6 ∧ f.2.1 ≠ 7 ∧ f.2.1 ≠ 8)) = true := by decide +kernel
/-- What a share or a copy of a new kind leads to. -/
theorem Qed.links {T : List Ks} {q : Ks} {T' : List Ks} (h : Qed T q T') : ∀ f ∈ q.2,f.2.1 ≠ 6 ∧ (f.2.1 = 7 ∨ f.2.1 = 8 → ∃ (to : Nat) (t : Ks),T[to]? = some t ∧ q.2[1]? = some (sOf t.1) ∧
  ((f = Qht ∧ T'[to]? = some (t.1,t.2 ++ [Qhu q.1])) ∨ ∃ g ∈ t.2,(g.2.1 ≠ 0 ∧ g.2.1 ≠ 1 ∧ g.2.1 ≠ 6 ∧ g.2.1 ≠ 7) ∧ f = QiS g.1)) := by
 obtain ⟨F,by',p1,p2,hp,hb,h1,h2,e⟩ := h
 have pl : ∀ {p : List Sg},p ∈ Qbb → ∀ f ∈ p,f.2.1 ≠ 6 ∧ f.2.1 ≠ 7 ∧ f.2.1 ≠ 8 := fun h f hf => by
  have := List.all_eq_true.1 (List.all_eq_true.1 Qnt _ h) f hf
  simpa using this
 have no : ∀ f : Sg,f.2.1 ≠ 6 ∧ f.2.1 ≠ 7 ∧ f.2.1 ≠ 8 → f.2.1 ≠ 6 ∧ (f.2.1 = 7 ∨ f.2.1 = 8 → ∃ (to : Nat) (t : Ks),T[to]? = some t ∧ q.2[1]? = some (sOf t.1) ∧
  ((f = Qht ∧ T'[to]? = some (t.1,t.2 ++ [Qhu q.1])) ∨ ∃ g ∈ t.2,(g.2.1 ≠ 0 ∧ g.2.1 ≠ 1 ∧ g.2.1 ≠ 6 ∧ g.2.1 ≠ 7) ∧ f = QiS g.1)) := fun f h => ⟨h.1,fun h' => by omega⟩
 intro f hf
 rw [e] at hf
 rcases List.mem_append.1 hf with hf | hf
 ·rcases List.mem_append.1 hf with hf | hf
  ·rcases List.mem_append.1 hf with hf | hf
   ·rcases hp with ⟨_,rfl,_⟩ | ⟨to,t,cp,pt,ht,rfl,hc,hp⟩
    ·rw [List.mem_singleton] at hf; subst hf; exact no _ (by decide)
    ·have h1 : q.2[1]? = some (sOf t.1) := by rw [e]; rfl
     rcases List.mem_cons.1 hf with rfl | hf
     ·exact no _ (by decide)
     ·rcases List.mem_cons.1 hf with rfl | hf
      ·exact no _ ⟨show (1:Int) ≠ 6 by decide,show (1:Int) ≠ 7 by decide,show (1:Int) ≠ 8 by decide⟩
      ·rcases List.mem_append.1 hf with hf | hf
       ·rcases hc with rfl | ⟨g,hg,hk,rfl⟩
        ·cases hf
        ·rw [List.mem_singleton] at hf; subst hf
         exact ⟨show (8:Int) ≠ 6 by decide,fun _ => ⟨to,t,ht,h1,.inr ⟨g,hg,hk,rfl⟩⟩⟩
       ·rcases hp with ⟨rfl,_⟩ | ⟨_,rfl,rfl⟩
        ·cases hf
        ·rw [List.mem_singleton] at hf; subst hf
         refine ⟨by decide,fun _ => ⟨to,t,ht,h1,.inl ⟨rfl,?_⟩⟩⟩
         rw [List.getElem?_set,if_pos rfl,if_pos (List.getElem?_eq_some_iff.1 ht).1]
   ·rcases hb with rfl | ⟨_,t,_,rfl⟩
    ·cases hf
    ·rw [List.mem_singleton] at hf; subst hf
     exact no _ ⟨show (1:Int) ≠ 6 by decide,show (1:Int) ≠ 7 by decide,show (1:Int) ≠ 8 by decide⟩
  ·exact no _ (pl h1 f hf)
 ·rcases h2 with rfl | ⟨h2,_⟩
  ·cases hf
  ·exact no _ (pl h2 f hf)

end Go.Proofs.YtcdccjagknlmpaaGreatDoor

namespace Go.Proofs.YtcdccjagknlmpaaGreatDoor
open Go.Sim

def Qnu : Str := [108,105,102,101]
/-- A day of another day comes behind it. -/
def Ql4 (l : List Sg) : Prop := ∀ (j : Nat) (f : Sg),l[j]? = some f → f.2.1 = 4 → f.2.2.1 = [] ∨ ∃ (i : Nat) (g : Sg),i < j ∧ l[i]? = some g ∧ g.1 = f.2.2.1 ∧ g.2.1 = 4
theorem QhX {α : Type} {l r : List α} {i : Nat} {a : α} (h : l[i]? = some a) : (l ++ r)[i]? = some a := by
 rw [List.getElem?_append_left (List.getElem?_eq_some_iff.1 h).1]
 exact h
theorem Ql4.append {a b : List Sg} (ha : Ql4 a) (hb : Ql4 b) : Ql4 (a ++ b) := by
 intro j f hj hk
 by_cases h : j < a.length
 ·rw [List.getElem?_append_left h] at hj
  rcases ha j f hj hk with h' | ⟨i,g,hi,hg,r⟩
  ·exact .inl h'
  ·exact .inr ⟨i,g,hi,QhX hg,r⟩
 ·rw [List.getElem?_append_right (by omega)] at hj
  rcases hb _ f hj hk with h' | ⟨i,g,hi,hg,r⟩
  ·exact .inl h'
  ·exact .inr ⟨a.length + i,g,by omega,by rw [List.getElem?_append_right (by omega),Nat.add_sub_cancel_left]; exact hg,r⟩
theorem QfY {l : List Sg} (h : ∀ f ∈ l,f.2.1 ≠ 4) : Ql4 l := fun _ f hj hk => absurd hk (h f (List.mem_of_getElem? hj))
/-- Kinds are from 0 to 8; steps are of the one life; certain names are Nums. -/
def fokB (f : Sg) : Bool := (decide (0 ≤ f.2.1) && decide (f.2.1 ≤ 8)) && ((!(f.2.1 == 5) || f.2.2.1 == Qnu) && (!((f.1 == nLow || f.1 == QkL) || f.1 == Ql2) || f.2.1 == 2))
def LowS (l : List Sg) : Prop := (∃ f ∈ l,f.1 = nLow) → ∃ f ∈ l,f.1 = QkL
structure Qel (l : List Sg) : Prop where
 days : Ql4 l
 fok : ∀ f ∈ l,fokB f = true
 low : LowS l
theorem Qel.append {a b : List Sg} (ha : Qel a) (hb : Qel b) : Qel (a ++ b) where
 days := ha.days.append hb.days
 fok f hf := (List.mem_append.1 hf).elim (ha.fok f) (hb.fok f)
 low := fun ⟨f,hf,e⟩ => by
  rcases List.mem_append.1 hf with hf | hf
  ·obtain ⟨g,hg,e⟩ := ha.low ⟨f,hf,e⟩
   exact ⟨g,List.mem_append_left _ hg,e⟩
  ·obtain ⟨g,hg,e⟩ := hb.low ⟨f,hf,e⟩
   exact ⟨g,List.mem_append_right _ hg,e⟩
theorem QjE : Qel [] := ⟨QfY (by simp),by simp,fun ⟨_,h,_⟩ => by cases h⟩
theorem Qg5 {f : Sg} (h4 : f.2.1 ≠ 4) (hf : fokB f = true) (hl : f.1 ≠ nLow) : Qel [f] := by
 refine ⟨QfY fun g hg => ?_,fun g hg => ?_,fun ⟨g,hg,e⟩ => ?_⟩ <;> rw [List.mem_singleton] at hg <;> subst hg
 ·exact h4
 ·exact hf
 ·exact absurd e hl
theorem QqW : (Qbb.all fun p => p.all fokB) = true := by decide +kernel
theorem QlF : ∀ p ∈ Qbb,Qel p := by
 intro p hp
 refine ⟨?_,List.all_eq_true.1 (List.all_eq_true.1 QqW p hp),?_⟩
 ·simp only [Qbb,List.mem_cons,List.not_mem_nil,or_false] at hp
  rcases hp with rfl | rfl | rfl | rfl | rfl | rfl
  ·exact QfY (by simp)
  ·exact QfY (by decide)
  ·exact QfY (by decide)
  ·intro j f hj _
   match j,hj with
   | 0,hj => cases hj; exact .inl rfl
   | 1,hj => cases hj; exact .inr ⟨0,QqU,by decide,rfl,rfl,rfl⟩
  ·exact QfY (by decide)
  ·exact QfY (by decide)
 ·have key : (Qbb.all fun p => !(p.any fun f => f.1 == nLow) || (p.any fun f => f.1 == QkL)) = true := by decide +kernel
  have := List.all_eq_true.1 key p hp
  rintro ⟨f,hf,e⟩
  have h1 : (p.any fun f => f.1 == nLow) = true := List.any_eq_true.2 ⟨f,hf,by simpa using e⟩
  rw [h1] at this
  obtain ⟨g,hg,e⟩ := List.any_eq_true.1 (show (p.any fun f => f.1 == QkL) = true by simpa using this)
  exact ⟨g,hg,by simpa using e⟩
theorem Qed.piece {T : List Ks} {q : Ks} {T' : List Ks} (h : Qed T q T') : Qel q.2 := by
 obtain ⟨F,by',p1,p2,hp,hb,h1,h2,e⟩ := h
 rw [e]
 have o1 : Qel [sId] := Qg5 (by decide) (by decide) (by decide)
 refine ((Qel.append ?_ ?_).append (QlF p1 h1)).append (h2.elim (fun h => h ▸ QjE) fun h => QlF p2 h.1)
 ·rcases hp with ⟨_,rfl,_⟩ | ⟨to,t,cp,pt,_,rfl,hc,hp⟩
  ·exact o1
  ·refine o1.append (b := sOf t.1 :: (cp ++ pt)) ((Qg5 (f := sOf t.1) (show (1:Int) ≠ 4 by decide) rfl (show nOf ≠ nLow by decide)).append (b := cp ++ pt) (Qel.append ?_ ?_))
   ·rcases hc with rfl | ⟨g,_,_,rfl⟩
    ·exact QjE
    ·exact Qg5 (show (8:Int) ≠ 4 by decide) rfl (show ([115,97,109,101] : Str) ≠ nLow by decide)
   ·rcases hp with ⟨rfl,_⟩ | ⟨_,rfl,_⟩
    ·exact QjE
    ·exact Qg5 (by decide) (by decide) (by decide)
 ·rcases hb with rfl | ⟨_,t,_,rfl⟩
  ·exact QjE
  ·exact Qg5 (show (1:Int) ≠ 4 by decide) rfl (show ([98,121] : Str) ≠ nLow by decide)

def Right (h : Sg) : Prop := h.2.1 ≠ 0 ∧ h.2.1 ≠ 1 ∧ h.2.1 ≠ 6 ∧ h.2.1 ≠ 7
/-- What holds of a kind's fields, among all kinds. -/
structure FInv (T : List Ks) (k : Nat) (q : Ks) : Prop where
 piece : Qel q.2
 k7 : ∀ f ∈ q.2,f.2.1 = 7 → f = Qht ∧ ∃ (to : Nat) (t : Ks),to < k ∧ T[to]? = some t ∧ q.2[1]? = some (sOf t.1) ∧ Qhu q.1 ∈ t.2
 k8 : ∀ f ∈ q.2,f.2.1 = 8 → ∃ (n : Str) (to : Nat) (t : Ks),f = QiS n ∧ to < k ∧ T[to]? = some t ∧ q.2[1]? = some (sOf t.1) ∧ ∃ h ∈ t.2,h.1 = n ∧ Right h
 k6 : ∀ f ∈ q.2,f.2.1 = 6 → ∃ (o : Nat) (p : Ks),f = Qhu p.1 ∧ k < o ∧ T[o]? = some p ∧ Qht ∈ p.2 ∧ p.2[1]? = some (sOf q.1)
def Ext (T U : List Ks) : Prop := ∀ (i : Nat) (t : Ks),T[i]? = some t → ∃ r,U[i]? = some (t.1,t.2 ++ r)
theorem FInv.ext {T U : List Ks} {k : Nat} {q : Ks} (e : Ext T U) (h : FInv T k q) : FInv U k q where
 piece := h.piece
 k7 f hf hk := by
  obtain ⟨e1,to,t,h1,h2,h3,h4⟩ := h.k7 f hf hk
  obtain ⟨r,hr⟩ := e to t h2
  exact ⟨e1,to,_,h1,hr,h3,List.mem_append_left _ h4⟩
 k8 f hf hk := by
  obtain ⟨n,to,t,e1,h1,h2,h3,g,h4,h5⟩ := h.k8 f hf hk
  obtain ⟨r,hr⟩ := e to t h2
  exact ⟨n,to,_,e1,h1,hr,h3,g,List.mem_append_left _ h4,h5⟩
 k6 f hf hk := by
  obtain ⟨o,p,e1,h1,h2,h3,h4⟩ := h.k6 f hf hk
  obtain ⟨r,hr⟩ := e o p h2
  exact ⟨o,(p.1,p.2 ++ r),e1,h1,hr,List.mem_append_left _ h3,QhX h4⟩
theorem FInv.total {U : List Ks} {k o : Nat} {t p : Ks} (h : FInv U k t) (h1 : k < o) (h2 : U[o]? = some p) (h3 : Qht ∈ p.2) (h4 : p.2[1]? = some (sOf t.1)) : FInv U k (t.1,t.2 ++ [Qhu p.1]) where
 piece := h.piece.append (Qg5 (show (6:Int) ≠ 4 by decide) rfl (show QgB ≠ nLow by decide))
 k7 f hf hk := by
  rcases List.mem_append.1 hf with hf | hf
  ·obtain ⟨e1,to,t',g1,g2,g3,g4⟩ := h.k7 f hf hk
   exact ⟨e1,to,t',g1,g2,QhX g3,g4⟩
  ·rw [List.mem_singleton] at hf; subst hf; exact absurd (show (6:Int) = 7 from hk) (by decide)
 k8 f hf hk := by
  rcases List.mem_append.1 hf with hf | hf
  ·obtain ⟨n,to,t',e1,g1,g2,g3,g⟩ := h.k8 f hf hk
   exact ⟨n,to,t',e1,g1,g2,QhX g3,g⟩
  ·rw [List.mem_singleton] at hf; subst hf; exact absurd (show (6:Int) = 8 from hk) (by decide)
 k6 f hf hk := by
  rcases List.mem_append.1 hf with hf | hf
  ·exact h.k6 f hf hk
  ·rw [List.mem_singleton] at hf
   exact ⟨o,p,hf,h1,h2,h3,h4⟩
theorem Ext.self (T : List Ks) : Ext T T := fun _ t h => ⟨[],by rw [List.append_nil]; exact h⟩
theorem Ext.app {T U : List Ks} (r : List Ks) (h : Ext T U) : Ext T (U ++ r) := fun i t e => by
 obtain ⟨s,hs⟩ := h i t e
 exact ⟨s,QhX hs⟩
theorem Ext.set {T : List Ks} {i : Nat} {t : Ks} (s : List Sg) (h : T[i]? = some t) : Ext T (T.set i (t.1,t.2 ++ s)) := fun j u e => by
 rw [List.getElem?_set]
 split
 ·rename_i ej
  subst ej
  rw [if_pos (List.getElem?_eq_some_iff.1 h).1]
  rw [h] at e; cases e
  exact ⟨s,rfl⟩
 ·exact ⟨[],by rw [List.append_nil]; exact e⟩
theorem Qed.ext {T : List Ks} {q : Ks} {T' : List Ks} (h : Qed T q T') : Ext T T' := by
 obtain ⟨F,by',p1,p2,hp,_⟩ := h
 rcases hp with ⟨_,_,rfl⟩ | ⟨to,t,cp,pt,ht,_,_,hp⟩
 ·exact Ext.self _
 ·rcases hp with ⟨_,rfl⟩ | ⟨_,_,rfl⟩
  ·exact Ext.self _
  ·exact Ext.set _ ht
/-- What a new kind changes in the earlier ones: at most one gets a total, which goes to it. -/
theorem Qed.old {T : List Ks} {q : Ks} {T' : List Ks} (h : Qed T q T') {i : Nat} {u : Ks} (e : T'[i]? = some u) : T[i]? = some u ∨ ∃ t,T[i]? = some t ∧ u = (t.1,t.2 ++ [Qhu q.1]) ∧ Qht ∈ q.2 ∧ q.2[1]? = some (sOf t.1) := by
 obtain ⟨F,by',p1,p2,hp,_,_,_,eq⟩ := h
 rcases hp with ⟨_,_,rfl⟩ | ⟨to,t,cp,pt,ht,rfl,_,hp⟩
 ·exact .inl e
 ·rcases hp with ⟨_,rfl⟩ | ⟨_,rfl,rfl⟩
  ·exact .inl e
  ·rw [List.getElem?_set] at e
   split at e
   ·rename_i ei
    subst ei
    rw [if_pos (List.getElem?_eq_some_iff.1 ht).1] at e
    cases e
    refine .inr ⟨t,ht,rfl,?_,?_⟩
    ·rw [eq]; simp
    ·rw [eq]; rfl
   ·exact .inl e
theorem QbF.inv {T : List Ks} (h : QbF T) : ∀ (k : Nat) (q : Ks),T[k]? = some q → FInv T k q := by
 induction h with
 | nil => intro k q h; simp at h
 | @snoc T q T' h hl hn hk ih =>
  intro k z hz
  have el : T'.length = T.length := by simpa using congrArg List.length hk.names
  have e1 : Ext T (T' ++ [q]) := hk.ext.app [q]
  have hq : (T' ++ [q])[T'.length]? = some q := by simp
  by_cases hi : k < T'.length
  ·rw [List.getElem?_append_left hi] at hz
   rcases hk.old hz with h0 | ⟨t,h0,rfl,h1,h2⟩
   ·exact (ih k z h0).ext e1
   ·exact ((ih k t h0).ext e1).total hi hq h1 h2
  ·rw [List.getElem?_append_right (by omega)] at hz
   have e0 : k - T'.length = 0 := by
    cases hd : k - T'.length with
    | zero => rfl
    | succ n => rw [hd] at hz; simp at hz
   rw [e0] at hz
   cases hz
   have hkk : k = T.length := by omega
   refine ⟨hk.piece,fun f hf hf7 => ?_,fun f hf hf8 => ?_,fun f hf hf6 => absurd hf6 (hk.links f hf).1⟩
   ·obtain ⟨to,t,ht,h1,h2⟩ := (hk.links f hf).2 (.inl hf7)
    have hto := (List.getElem?_eq_some_iff.1 ht).1
    rcases h2 with ⟨rfl,h2⟩ | ⟨g,_,_,rfl⟩
    ·exact ⟨rfl,to,_,by omega,QhX h2,h1,List.mem_append_right _ (List.mem_singleton_self _)⟩
    ·exact absurd (show (8:Int) = 7 from hf7) (by decide)
   ·obtain ⟨to,t,ht,h1,h2⟩ := (hk.links f hf).2 (.inr hf8)
    have hto := (List.getElem?_eq_some_iff.1 ht).1
    rcases h2 with ⟨rfl,h2⟩ | ⟨g,hg,hr,rfl⟩
    ·exact absurd hf8 (by decide)
    ·obtain ⟨r,hr'⟩ := e1 to t ht
     exact ⟨g.1,to,_,rfl,by omega,hr',h1,g,List.mem_append_left _ hg,rfl,hr⟩

end Go.Proofs.YtcdccjagknlmpaaGreatDoor

namespace Go.Proofs.YtcdccjagknlmpaaGreatDoor
open Go.Sim

def QaS : List Qq → Int
 | [] => 0
 | f :: r => if f.is = true then f.code else QaS r
theorem QgL {l : List Qq} (hl : l.length ≤ 1000) : Qaa l = some (QaS l) := by
 have key : Ok (Qaa l) (fun r => r = QaS l) := by
  unfold Qaa
  refine Ok.bind (P := fun e : Unit ⊕ Int => (match e with | .inl _ => 0 | .inr r => r) = QaS l) (Ok.loop (fun m s => 0 ≤ s ∧ s + m = l.length ∧ QaS (l.drop s.toNat) = QaS l) l.length ⟨Int.le_refl _,by omega,by simp⟩ fun m s hs => ?_) fun e he => by cases e <;> exact Ok.mk he
  obtain ⟨h1,h2,h3⟩ := hs
  obtain ⟨k,rfl⟩ := Int.eq_ofNat_of_zero_le h1
  rw [Int.toNat_natCast] at h3
  refine Ok.ite (fun hk => ?_) (fun hk => ?_)
  ·have hk' : k < l.length := by simpa using hk
   rw [Qak hk']
   simp only [Option.bind_some]
   rw [List.drop_eq_getElem_cons hk',QaS] at h3
   refine Ok.ite (fun hi => Ok.mk ?_) (fun hi => Ok.mk ⟨m - 1,by omega,?_⟩)
   ·rw [if_pos hi] at h3; exact h3
   ·rw [if_neg (by rw [hi]; decide)] at h3
    rw [Qad hk' (by omega)]
    exact ⟨by omega,by omega,by rw [Int.toNat_natCast]; exact h3⟩
  ·have hk' : ¬ k < l.length := by simpa using hk
   rw [List.drop_of_length_le (by omega)] at h3
   exact Ok.mk h3
 obtain ⟨r,hr,rfl⟩ := key
 exact hr

/-- The field above to which Of leads. -/
def topS (x : Qg) (k j : Int) (f : Qb) : Qb × Bool :=
 if upIx x k j < 0 then (Qe4,false)
 else match idx x.Kinds (upIx x k j) with
  | none => (Qe4,false)
  | some q => match field? x (upIx x k j) (Qba q f.Of) with | some g => (g,true) | none => (Qe4,false)
def Qsc (g : Qb) : Bool := ((((g.Kind == 2) || (g.Kind == 3)) || (g.Kind == 4)) || (g.Kind == 5)) || (g.Kind == 8)
/-- The error of a field whose name is not there twice. -/
def Qih (x : Qg) (q : Qi) (k j : Int) (f : Qb) : Int :=
 if f.Kind = 0 then QaS [⟨decide (j > 0),13⟩]
 else if f.Kind = 1 then QaS [⟨decide (upIx x k j < 0),12⟩]
 else if f.Kind = 4 then QaS [⟨(f.Of != []) && (((decide (Qba q f.Of < 0)) || (decide (Qba q f.Of ≥ j))) || ((match field? x k (Qba q f.Of) with | some g => (g,true) | none => (Qe4,false)).1.Kind != 4)),12⟩]
 else if f.Kind = 5 then QaS [⟨!(x.Lives.any fun l => l.Name == f.Of),12⟩]
 else if f.Kind = 6 then QaS [⟨decide ((QlZ x k f).1 < 0),12⟩,⟨((QlZ x k f).2.length : Int) != 1,11⟩]
 else if f.Kind = 7 then QaS [⟨decide (upIx x k j < 0),12⟩,⟨((!(topS x k j f).2) || ((topS x k j f).1.Kind != 6)) || (Qab x (topS x k j f).1.Of != k),13⟩]
 else if f.Kind = 8 then QaS [⟨decide (upIx x k j < 0),12⟩,⟨(!(topS x k j f).2) || (!Qsc (topS x k j f).1),13⟩]
 else 0
theorem QuT (x : Qg) (k j : Int) (hk : 0 ≤ k) : upIx x k j < k ∧ -1 ≤ upIx x k j := by
 have hr : ∀ g,Qhq x k g < k ∧ -1 ≤ Qhq x k g := fun g => by
  have := Qlz x g.Of
  unfold Qhq; split <;> omega
 unfold upIx
 cases field? x k j with
 | none => exact ⟨by dsimp only; omega,by dsimp only; omega⟩
 | some f =>
  dsimp only
  split
  ·split
   ·omega
   ·split
    ·split
     ·split
      ·exact hr _
      ·omega
     ·omega
    ·omega
  ·split
   ·exact hr _
   ·omega
theorem Qsd {x : Qg} {k j : Int} {f : Qb} (hx : Few x) (hk : 0 ≤ k) (hkl : k < x.Kinds.length) : QbM ⟨x,k,j,f⟩ = some (topS x k j f) := by
 unfold QbM topS
 rw [Qjj hx]
 simp only [Option.bind_some]
 by_cases hu : upIx x k j < 0
 ·rw [if_pos (by simpa using hu),if_pos hu]; rfl
 ·rw [if_neg (by simpa using hu),if_neg hu]
  have h1 := QuT x k j hk
  obtain ⟨q,hq,hqm⟩ := Qji (l := x.Kinds) (i := upIx x k j) (by omega) (by omega)
  rw [hq]
  simp only [Option.bind_some]
  rw [Qeu (by have := hx.2 q hqm; omega)]
  simp only [Option.bind_some]
  rw [QkJ]
  cases field? x (upIx x k j) (Qba q f.Of) <;> rfl
theorem Qn1 {x : Qg} {k j : Int} {f : Qb} (hx : Few x) : Qbi ⟨x,k,j,f⟩ = some (decide (upIx x k j < 0)) := by
 unfold Qbi
 rw [Qjj hx]; rfl
theorem Qte {x : Qg} {k j : Int} {q : Qi} {f : Qb} (hx : Few x) (hl : x.Lives.length ≤ 1000) (hq : idx x.Kinds k = some q) (hf : field? x k j = some f) (h : (Qa9 f.Kind).isSome = true) : Qkt (QbW.mk (Qa9 f.Kind)).check ⟨x,k,j,f⟩ = some (Qih x q k j f) := by
 obtain ⟨q',hk,hj,hq',hqf,hqm,hkl,hjl⟩ := Qhp hf
 rw [hq] at hq'; cases hq'
 have one : ∀ a,Qaa [a] = some (QaS [a]) := fun a => QgL (by simp)
 have two : ∀ a b,Qaa [a,b] = some (QaS [a,b]) := fun a b => QgL (by simp)
 unfold Qih
 dsimp only
 by_cases c0 : f.Kind = 0
 ·rw [if_pos c0,c0]
  show QbH _ = _
  unfold QbH; rw [one]; rfl
 rw [if_neg c0]
 by_cases c1 : f.Kind = 1
 ·rw [if_pos c1,c1]
  show QbI _ = _
  unfold QbI; rw [Qn1 hx]; simp only [Option.bind_some]; rw [one]; rfl
 rw [if_neg c1]
 by_cases c4 : f.Kind = 4
 ·rw [if_pos c4,c4]
  show QbJ _ = _
  unfold QbJ
  dsimp only
  rw [hq]
  simp only [Option.bind_some]
  rw [Qeu (by have := hx.2 q hqm; omega)]
  simp only [Option.bind_some]
  rw [QkJ]
  simp only [Option.bind_some]
  rw [one]; rfl
 rw [if_neg c4]
 by_cases c5 : f.Kind = 5
 ·rw [if_pos c5,c5]
  show QbK _ = _
  unfold QbK
  dsimp only
  rw [Qjl (s := x.Lives) (f := fun x0 => Qct x0 ⟨x,k,j,f⟩) (p := fun l => l.Name == f.Of) (by omega) (fun l _ => rfl)]
  simp only [Option.bind_some]
  rw [one]; rfl
 rw [if_neg c5]
 by_cases c6 : f.Kind = 6
 ·rw [if_pos c6]
  show Qkt (Qa9 f.Kind) _ = _
  rw [c6]
  show QbL _ = _
  unfold QbL
  dsimp only
  rw [QrT hx hk]
  simp only [Option.bind_some]
  rw [two]; rfl
 rw [if_neg c6]
 by_cases c7 : f.Kind = 7
 ·rw [if_pos c7]
  show Qkt (Qa9 f.Kind) _ = _
  rw [c7]
  show QbN _ = _
  unfold QbN
  rw [Qsd hx hk hkl,Qn1 hx]
  simp only [Option.bind_some]
  rw [QdS (by have := hx.1; omega)]
  cases hc : ((!(topS x k j f).2) || ((topS x k j f).1.Kind != 6)) with
  | true =>
   simp only [Sim.opt,Bool.true_or]
   show (Qaa _).bind _ = _
   rw [two]; rfl
  | false =>
   simp only [Sim.opt,beq_self_eq_true,if_true,Option.bind_some]
   rw [two]; rfl
 rw [if_neg c7]
 by_cases c8 : f.Kind = 8
 ·rw [if_pos c8]
  show Qkt (Qa9 f.Kind) _ = _
  rw [c8]
  show QbO _ = _
  unfold QbO
  rw [Qsd hx hk hkl,Qn1 hx]
  simp only [Option.bind_some]
  rw [two]; rfl
 rw [Qa9,if_neg c0,if_neg c1,if_neg c4,if_neg c5,if_neg c6,if_neg c7,if_neg c8] at h
 cases h
theorem Qtf {x : Qg} {k j : Int} {q : Qi} {f : Qb} (h : (Qa9 f.Kind).isSome = false) : Qih x q k j f = 0 := by
 unfold Qih
 by_cases c0 : f.Kind = 0
 ·rw [c0] at h; cases h
 by_cases c1 : f.Kind = 1
 ·rw [c1] at h; cases h
 by_cases c4 : f.Kind = 4
 ·rw [c4] at h; cases h
 by_cases c5 : f.Kind = 5
 ·rw [c5] at h; cases h
 by_cases c6 : f.Kind = 6
 ·rw [c6] at h; cases h
 by_cases c7 : f.Kind = 7
 ·rw [c7] at h; cases h
 by_cases c8 : f.Kind = 8
 ·rw [c8] at h; cases h
 rw [if_neg c0,if_neg c1,if_neg c4,if_neg c5,if_neg c6,if_neg c7,if_neg c8]

/-- The error of a kind. -/
def Ql5 (x : Qg) (i : Int) (q : Qi) : Int := QaS [⟨decide (Qab x q.Name < i),7⟩,⟨((q.Fields.length : Int) == 0) || ((q.Fields.headD Qe4).Kind != 0),11⟩]
theorem QuU {x : Qg} {i : Int} {q : Qi} (hx : Few x) (hq : idx x.Kinds i = some q) : QdZ x i = some (Ql5 x i q) := by
 unfold QdZ Ql5
 rw [hq]
 simp only [Option.bind_some]
 rw [QdS (by have := hx.1; omega)]
 simp only [Option.bind_some]
 cases hf : q.Fields with
 | nil =>
  show (Qaa _).bind _ = _
  rw [QgL (by simp)]; rfl
 | cons f fs =>
  have e : (((f :: fs).length : Int) == 0) = false := by simp; omega
  rw [e]
  simp only [Sim.opt,beq_self_eq_true,if_true]
  rw [show idx (f :: fs) (0:Int) = some f from rfl]
  simp only [Option.bind_some]
  rw [QgL (by simp)]; rfl

/-- The error of a rule. -/
def Qkf (x : Qg) (k : Int) (n : Str) : Qb × Bool := match idx x.Kinds k with | none => (Qe4,false) | some q => match field? x k (Qba q n) with | some g => (g,true) | none => (Qe4,false)
def Qgm (x : Qg) (k : Int) (n : Str) : Bool := !((n == []) || decide (k < 0)) && !(Qkf x k n).2
def QeY (x : Qg) (k : Int) (n : Str) : Bool := !((n == []) || decide (k < 0)) && (((Qkf x k n).1.Kind != 2) && ((Qkf x k n).1.Kind != 4))
def Qnv (x : Qg) (i : Nat) (r : Qo) : Int :=
 QaS [⟨(x.Rules.take i).any fun s => s.Name == r.Name,7⟩,⟨(decide (Qab x r.Kind < 0) || Qgm x (Qab x r.Kind) r.A) || Qgm x (Qab x r.Kind) r.B,12⟩,⟨QeY x (Qab x r.Kind) r.A || QeY x (Qab x r.Kind) r.B,13⟩,⟨r.A == r.B,1⟩]
theorem Qoq {β : Type} {x : Qg} {k : Int} {n : Str} {a b : Bool} (hx : Few x) (hk : k < x.Kinds.length) (g : Bool × Bool → β) :
  (if ((n == ([] : Str)) || (decide (k < 0))) = true then some (g (a,b)) else (idx x.Kinds k).bind fun t53 => (Qbj t53 n).bind fun t56 => (Qci x k t56).bind fun t57 => some (g ((a || (!t57.2)),(b || ((t57.1.Kind != 2) && (t57.1.Kind != 4)))))) = some (g (a || Qgm x k n,b || QeY x k n)) := by
 unfold Qgm QeY
 cases hc : ((n == ([] : Str)) || (decide (k < 0))) with
 | true => rw [if_pos rfl]; simp
 | false =>
  rw [if_neg (by decide)]
  simp only [Bool.or_eq_false_iff,decide_eq_false_iff_not] at hc
  obtain ⟨q,hq,hqm⟩ := Qji (l := x.Kinds) (i := k) (by omega) hk
  unfold Qkf
  rw [hq]
  simp only [Option.bind_some]
  rw [Qeu (by have := hx.2 q hqm; omega)]
  simp only [Option.bind_some]
  rw [QkJ]
  cases field? x k (Qba q n) <;> simp

end Go.Proofs.YtcdccjagknlmpaaGreatDoor

namespace Go.Proofs.YtcdccjagknlmpaaGreatDoor
open Go.Sim

theorem QuV {x : Qg} {i : Nat} {r : Qo} (hx : Few x) (hl : x.Rules.length ≤ 1000) (hi : i < x.Rules.length) (hr : x.Rules[i]? = some r) : Qd0 x (i : Int) = some (Qnv x i r) := by
 unfold Qd0
 rw [QfB,hr]
 simp only [Option.bind_some]
 have hs : Sim.sub x.Rules 0 (i : Int) = some (x.Rules.take i) := by
  unfold Sim.sub
  rw [if_pos ⟨by decide,by omega,by omega⟩]; simp
 rw [hs]
 simp only [Option.bind_some]
 rw [QlA (f := fun x0 => QdQ x0 r) (p := fun s => s.Name == r.Name) (by rw [List.length_take]; omega) (fun s _ => rfl)]
 simp only [Option.bind_some]
 rw [QdS (by have := hx.1; omega)]
 simp only [Option.bind_some]
 have hk := (Qlz x r.Kind).2
 let st : Nat → Int × Bool × Bool := fun n => match n with
  | 0 => (0,decide (Qab x r.Kind < 0),false)
  | 1 => (1,decide (Qab x r.Kind < 0) || Qgm x (Qab x r.Kind) r.A,false || QeY x (Qab x r.Kind) r.A)
  | _ => (2,(decide (Qab x r.Kind < 0) || Qgm x (Qab x r.Kind) r.A) || Qgm x (Qab x r.Kind) r.B,(false || QeY x (Qab x r.Kind) r.A) || QeY x (Qab x r.Kind) r.B)
 refine Qfe 2 st ((st 2).2.1,(st 2).2.2) rfl (fun n hn => ?_) rfl ?_
 ·have : n = 0 ∨ n = 1 := by omega
  rcases this with rfl | rfl
  ·have h := Qoq (x := x) (k := Qab x r.Kind) (n := r.A) (a := decide (Qab x r.Kind < 0)) (b := false) hx hk id
   show (Option.bind (if _ then _ else _) _ : Option _) = _
   exact (congrArg (fun o => Option.bind o (fun p55 : Bool × Bool => some (Sum.inl ((IntKind.i64.wrap ((0:Int) + (1:Int))),p55.1,p55.2)))) h : _)
  ·have h := Qoq (x := x) (k := Qab x r.Kind) (n := r.B) (a := decide (Qab x r.Kind < 0) || Qgm x (Qab x r.Kind) r.A) (b := false || QeY x (Qab x r.Kind) r.A) hx hk id
   show (Option.bind (if _ then _ else _) _ : Option _) = _
   exact (congrArg (fun o => Option.bind o (fun p55 : Bool × Bool => some (Sum.inl ((IntKind.i64.wrap ((1:Int) + (1:Int))),p55.1,p55.2)))) h : _)
 ·dsimp only
  rw [QgL (by simp)]
  simp [st,Qnv]

/-- A loop that collects. -/
theorem QkM {β : Type} (n : Nat) (g : Nat → List β) (B : Nat) (hB : ∀ k,k < n → (g k).length ≤ B) (a0 : List β) {body : Int × List β → Option ((Int × List β) ⊕ List β)}
  (hs : ∀ k,k < n → ∀ acc : List β,acc.length ≤ a0.length + k * B → body ((k : Int),acc) = some (.inl (((k + 1 : Nat) : Int),acc ++ g k))) (he : ∀ acc,body ((n : Int),acc) = some (.inr acc)) :
  QK body ((0 : Int),a0) = some (a0 ++ (List.range n).flatMap g) := by
 have hlen : ∀ m,m ≤ n → ((List.range m).flatMap g).length ≤ m * B := fun m => by
  induction m with
  | zero => intro _; simp
  | succ m ih =>
   intro hm
   rw [List.range_succ,List.flatMap_append,List.length_append,Nat.succ_mul]
   have h1 := ih (by omega)
   have h2 := hB m (by omega)
   simp only [List.flatMap_cons,List.flatMap_nil,List.append_nil]
   omega
 have h := Qig (body := body) n (fun m => ((m : Int),a0 ++ (List.range m).flatMap g)) (a0 ++ (List.range n).flatMap g) (fun k hk => ?_) ?_
 ·simpa using h
 ·rw [hs k hk _ (by rw [List.length_append]; have := hlen k (by omega); omega),List.range_succ,List.flatMap_append]
  simp
 ·rw [he]

def prob (k j r e : Int) : List Qn := if e = 0 then [] else [⟨k,j,r,e⟩]
theorem Qjn (k j r e : Int) : (prob k j r e).length ≤ 1 := by unfold prob; split <;> simp
theorem Qnw {k j r e : Int} {l : List Qn} (h : l.length ≤ 1000000000) : Qbn k j r e l = some (l ++ prob k j r e) := by
 unfold Qbn prob
 by_cases he : e = 0
 ·rw [if_neg (by simp [he]),if_pos he,List.append_nil]; rfl
 ·rw [if_pos (by simpa using he),if_neg he,QjC (by rw [List.length_singleton]; omega)]; rfl
def lifeE (x : Qg) (i : Nat) (l : Qu) : Int := QaS [⟨(x.Lives.take i).any fun m => m.Name == l.Name,7⟩]
def QlG (x : Qg) (q : Qi) (k j : Int) (f : Qb) : Int := if Qba q f.Name < j then 7 else Qih x q k j f
def QiT (x : Qg) (i : Nat) : List Qn := match x.Lives[i]? with | some l => prob (-1) (i : Int) (-1) (lifeE x i l) | none => []
def Qhv (x : Qg) (i : Nat) (q : Qi) (j : Nat) : List Qn := match q.Fields[j]? with | some f => prob (i : Int) (j : Int) (-1) (QlG x q (i : Int) (j : Int) f) | none => []
def Qkg (x : Qg) (i : Nat) (q : Qi) : List Qn := (List.range q.Fields.length).flatMap (Qhv x i q)
def QiU (x : Qg) (i : Nat) : List Qn := match x.Kinds[i]? with | some q => prob (i : Int) (-1) (-1) (Ql5 x (i : Int) q) ++ Qkg x i q | none => []
def QkN (x : Qg) (i : Nat) : List Qn := match x.Rules[i]? with | some r => prob (-1) (-1) (i : Int) (Qnv x i r) | none => []
def QgC (x : Qg) : List Qn := (List.range x.Lives.length).flatMap (QiT x)
def Qit (x : Qg) : List Qn := (List.range x.Kinds.length).flatMap (QiU x)
def QpB (x : Qg) : List Qn := (List.range x.Rules.length).flatMap (QkN x)
theorem Qor (x : Qg) (i : Nat) : (QiT x i).length ≤ 1 := by unfold QiT; cases x.Lives[i]? with | none => simp | some f => exact Qjn _ _ _ _
theorem Qnx (x : Qg) (i : Nat) (q : Qi) (j : Nat) : (Qhv x i q j).length ≤ 1 := by unfold Qhv; cases q.Fields[j]? with | none => simp | some f => exact Qjn _ _ _ _
theorem Qse (x : Qg) (i : Nat) : (QkN x i).length ≤ 1 := by unfold QkN; cases x.Rules[i]? with | none => simp | some f => exact Qjn _ _ _ _
/-- All problems. -/
def QcG (x : Qg) : List Qn := if QgA x = 0 then QgC x ++ Qit x ++ QpB x else [⟨-1,-1,-1,QgA x⟩]
theorem Qex {β : Type} (n : Nat) (g : Nat → List β) (B : Nat) (hB : ∀ k,k < n → (g k).length ≤ B) : ((List.range n).flatMap g).length ≤ n * B := by
 induction n with
 | zero => simp
 | succ n ih =>
  rw [List.range_succ,List.flatMap_append,List.length_append,Nat.succ_mul]
  have h1 := ih fun k hk => hB k (by omega)
  have h2 := hB n (by omega)
  simp only [List.flatMap_cons,List.flatMap_nil,List.append_nil]
  omega
/-- What Check needs of a schema: its lists are short. -/
structure Ql6 (x : Qg) : Prop where
 few : Few x
 fine : Fine x
 lives : x.Lives.length ≤ 1000
 rules : x.Rules.length ≤ 1000
theorem Sz.short {x : Qg} (h : Sz x) : Ql6 x := ⟨h.few,h.fine,by have := h.2.1.1; omega,by have := h.2.2.1; omega⟩
theorem Qp1 {x : Qg} {i : Nat} {q : Qi} (h : q.Fields.length ≤ 1000) : (Qkg x i q).length ≤ 1000 := by
 have := Qex q.Fields.length (Qhv x i q) 1 (fun j _ => Qnx x i q j)
 unfold Qkg; omega
theorem QpC {x : Qg} (h : Ql6 x) : QcK x = some (QcG x) := by
 obtain ⟨hx,hfine,hlv,hrl⟩ := h
 unfold QcK
 rw [Qs8 hfine]
 simp only [Option.bind_some]
 unfold QcG
 by_cases hv : QgA x = 0
 ·rw [if_neg (by simp [hv]),if_pos hv]
  have b1 : (QgC x).length ≤ 1000 := by
   have := Qex x.Lives.length (QiT x) 1 (fun j _ => Qor x j)
   unfold QgC; omega
  have kl : ∀ k,k < x.Kinds.length → (QiU x k).length ≤ 1001 := fun k hk => by
   unfold QiU
   rw [List.getElem?_eq_getElem hk]
   dsimp only
   have := Qp1 (x := x) (i := k) (hx.2 _ (List.getElem_mem hk))
   have := Qjn k (-1) (-1) (Ql5 x k x.Kinds[k])
   rw [List.length_append]; omega
  have b2 : (Qit x).length ≤ 1001000 := by
   have := Qex x.Kinds.length _ 1001 kl
   have := hx.1
   unfold Qit; omega
  have hk1 := hx.1
  rw [QkM x.Lives.length (QiT x) 1 (fun j _ => Qor x j) [] (fun k hk acc hacc => ?_) (fun acc => if_neg (by simp))]
  ·rw [show ([] : List Qn) ++ (List.range x.Lives.length).flatMap (QiT x) = QgC x from rfl]
   simp only [Option.bind_some]
   rw [QkM x.Kinds.length (QiU x) 1001 kl (QgC x) (fun k hk acc hacc => ?_) (fun acc => if_neg (by simp))]
   ·rw [show QgC x ++ (List.range x.Kinds.length).flatMap (QiU x) = QgC x ++ Qit x from rfl]
    simp only [Option.bind_some]
    rw [QkM x.Rules.length (QkN x) 1 (fun j _ => Qse x j) (QgC x ++ Qit x) (fun k hk acc hacc => ?_) (fun acc => if_neg (by simp))]
    ·rfl
    ·rw [List.length_append] at hacc
     rw [if_pos (by simpa using hk)]
     dsimp only
     rw [QuV hx hrl hk (List.getElem?_eq_getElem hk)]
     simp only [Option.bind_some]
     rw [Qnw (by omega)]
     simp only [Option.bind_some]
     unfold QkN
     rw [Qad hk (by omega),List.getElem?_eq_getElem hk]
   ·have hq := Qak hk
    have hqf := hx.2 _ (List.getElem_mem hk)
    rw [if_pos (by simpa using hk)]
    dsimp only
    rw [hq]
    simp only [Option.bind_some]
    rw [QuU hx hq]
    simp only [Option.bind_some]
    rw [Qnw (by omega)]
    simp only [Option.bind_some]
    have pl := Qjn k (-1) (-1) (Ql5 x k x.Kinds[k])
    rw [QkM x.Kinds[k].Fields.length (Qhv x k x.Kinds[k]) 1 (fun j _ => Qnx x k _ j) _ (fun j hj acc2 hacc2 => ?_) (fun acc => if_neg (by simp))]
    ·simp only [Option.bind_some]
     unfold QiU
     rw [Qad hk (by omega),List.getElem?_eq_getElem hk,List.append_assoc]
     rfl
    ·rw [List.length_append] at hacc2
     rw [if_pos (by simpa using hj)]
     dsimp only
     rw [Qak hj]
     simp only [Option.bind_some]
     rw [Qeu (by omega)]
     simp only [Option.bind_some]
     rw [QgL (by simp)]
     simp only [Option.bind_some]
     have hf : field? x (k : Int) (j : Int) = some x.Kinds[k].Fields[j] := QmE (by omega) (by omega) hq (Qak hj)
     have e : (if ((Qa9 x.Kinds[k].Fields[j].Kind).isSome && (QaS [⟨decide (Qba x.Kinds[k] x.Kinds[k].Fields[j].Name < (j : Int)),7⟩] == 0)) = true then (Qkt (QbW.mk (Qa9 x.Kinds[k].Fields[j].Kind)).check ⟨x,k,j,x.Kinds[k].Fields[j]⟩).bind fun t97 => some t97 else some (QaS [⟨decide (Qba x.Kinds[k] x.Kinds[k].Fields[j].Name < (j : Int)),7⟩])) = some (QlG x x.Kinds[k] k j x.Kinds[k].Fields[j]) := by
      unfold QlG
      by_cases hd : Qba x.Kinds[k] x.Kinds[k].Fields[j].Name < (j : Int)
      ·rw [if_pos hd,if_neg (by simp [QaS,hd])]
       simp [QaS,hd]
      ·rw [if_neg hd]
       have e0 : QaS [⟨decide (Qba x.Kinds[k] x.Kinds[k].Fields[j].Name < (j : Int)),7⟩] = 0 := by simp [QaS,hd]
       rw [e0]
       cases hs : (Qa9 x.Kinds[k].Fields[j].Kind).isSome with
       | true => rw [if_pos (by simp),Qte hx hlv hq hf hs]; rfl
       | false => rw [if_neg (by simp),Qtf hs]
     rw [e]
     simp only [Option.bind_some]
     rw [Qnw (by omega)]
     simp only [Option.bind_some]
     unfold Qhv
     rw [Qad hj (by omega),List.getElem?_eq_getElem hj]
  ·rw [List.length_nil] at hacc
   rw [if_pos (by simpa using hk)]
   dsimp only
   rw [Qak hk]
   simp only [Option.bind_some]
   have hs : Sim.sub x.Lives 0 (k : Int) = some (x.Lives.take k) := by
    unfold Sim.sub
    rw [if_pos ⟨by decide,by omega,by omega⟩]; simp
   rw [hs]
   simp only [Option.bind_some]
   rw [Qjl (f := fun x0 => Qdi x0 x.Lives[k]) (p := fun m => m.Name == x.Lives[k].Name) (by rw [List.length_take]; omega) (fun l _ => rfl)]
   simp only [Option.bind_some]
   rw [QgL (by simp)]
   simp only [Option.bind_some]
   rw [Qnw (by omega)]
   simp only [Option.bind_some]
   unfold QiT
   rw [Qad hk (by omega),List.getElem?_eq_getElem hk]
   rfl
 ·rw [if_pos (by simpa using hv),if_neg hv]

end Go.Proofs.YtcdccjagknlmpaaGreatDoor

namespace Go.Proofs.YtcdccjagknlmpaaGreatDoor
open Go.Sim

end Go.Proofs.YtcdccjagknlmpaaGreatDoor

namespace Go.Proofs.YtcdccjagknlmpaaGreatDoor
open Go.Sim

end Go.Proofs.YtcdccjagknlmpaaGreatDoor

namespace Go.Proofs.YtcdccjagknlmpaaGreatDoor
open Go.Sim

end Go.Proofs.YtcdccjagknlmpaaGreatDoor

namespace Go.Proofs.YtcdccjagknlmpaaGreatDoor
open Go.Sim

end Go.Proofs.YtcdccjagknlmpaaGreatDoor

namespace Go.Proofs.YtcdccjagknlmpaaGreatDoor
open Go.Sim

end Go.Proofs.YtcdccjagknlmpaaGreatDoor

namespace Go.Proofs.YtcdccjagknlmpaaGreatDoor
open Go.Sim

end Go.Proofs.YtcdccjagknlmpaaGreatDoor

namespace Go.Proofs.YtcdccjagknlmpaaGreatDoor
open Go.Sim

end Go.Proofs.YtcdccjagknlmpaaGreatDoor

namespace Go.Proofs.YtcdccjagknlmpaaGreatDoor
open Go.Sim

end Go.Proofs.YtcdccjagknlmpaaGreatDoor

namespace Go.Proofs.YtcdccjagknlmpaaGreatDoor
open Go.Sim

end Go.Proofs.YtcdccjagknlmpaaGreatDoor

namespace Go.Proofs.YtcdccjagknlmpaaGreatDoor
open Go.Sim

theorem shift {α : Type} {l : List α} {g h : α → Str} (e : ∀ a ∈ l,[10] ++ g a = h a ++ [10]) : [10] ++ l.flatMap g = l.flatMap h ++ [10] := by
 induction l with
 | nil => rfl
 | cons a l ih =>
  rw [List.flatMap_cons,List.flatMap_cons,← List.append_assoc,e a List.mem_cons_self,List.append_assoc,ih fun b hb => e b (List.mem_cons_of_mem _ hb),List.append_assoc]
end Go.Proofs.YtcdccjagknlmpaaGreatDoor

namespace Go.Proofs.YtcdccjagknlmpaaGreatDoor
open Go.Sim

end Go.Proofs.YtcdccjagknlmpaaGreatDoor

namespace Go.Proofs.YtcdccjagknlmpaaGreatDoor
open Go.Sim

end Go.Proofs.YtcdccjagknlmpaaGreatDoor

namespace Go.Proofs.YtcdccjagknlmpaaGreatDoor
open Go.Sim

end Go.Proofs.YtcdccjagknlmpaaGreatDoor

namespace Go.Proofs.YtcdccjagknlmpaaGreatDoor
open Go.Sim

end Go.Proofs.YtcdccjagknlmpaaGreatDoor

namespace Go.Proofs.YtcdccjagknlmpaaGreatDoor
open Go.Sim

end Go.Proofs.YtcdccjagknlmpaaGreatDoor

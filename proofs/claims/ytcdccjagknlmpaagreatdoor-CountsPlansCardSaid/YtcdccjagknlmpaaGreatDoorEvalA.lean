/- Computable copies of the functions that the examples reach, written by a program. No condition. -/
import Derived.Test.YtcdccjagknlmpaaGreatDoorGenAll
import Derived.Test.YtcdccjagknlmpaaGreatDoorSimO
namespace Go.Proofs.YtcdccjagknlmpaaGreatDoor
open Go.Sim

set_option maxRecDepth 100000

class LeC {α:Type} (x y:Option α):Prop where
  le:Le x y
theorem leX {α:Type} {x y:Option α} (h:Le x y:=by repeat (first | with_reducible exact Le.rfl | with_reducible exact LeC.le | with_reducible refine Le.bind ?_ (fun _=>?_) | with_reducible refine Le.ite ?_ ?_ | with_reducible refine Le.loop (fun _=>?_) | with_reducible refine Le.opt ?_ | with_reducible refine Le.jn1 (fun _=>?_) (fun _ _ hj=>?_) | refine Le.sum (fun _=>?_) (fun _=>?_) | exact Le.rfl | (rename_i e;cases e<;>dsimp only) | apply_assumption)):Le x y:=h

/-- The decimal digits, with a bound on how many. -/
def eDig:Nat→Nat→Str
  | 0,_=>[]
  | k+1,u=>if u<10 then [UInt8.ofNat (48+u)] else eDig k (u / 10)++[UInt8.ofNat (48+u % 10)]
theorem Qp8:∀(k u:Nat),u<10 ^ (k+1)→eDig (k+1) u=Lib.decDigits u
  | 0,u,h=>by rw[eDig,Lib.decDigits,if_pos (by simpa using h),dif_pos (by simpa using h)]
  | k+1,u,h=>by
    rw[eDig,Lib.decDigits]
    by_cases hu:u<10
    · rw[if_pos hu,dif_pos hu]
    · rw[if_neg hu,dif_neg hu,Qp8 k (u / 10) (by rw[Nat.pow_succ] at h;omega)]
def QsU (n:Int):Option Str:=if -1000000000≤n∧n≤1000000000 then some (if n<0 then 45::eDig 10 n.natAbs else eDig 10 n.toNat) else none
instance {n:Int}:LeC (QsU n) (Qmn n):=⟨fun r h=>by
  unfold QsU at h
  split at h
  · rename_i hn
    unfold Qmn
    rw[if_pos (by omega),←h]
    unfold Lib.itoa
    split
    · rw[Qp8 9 _ (by omega)]
    · rw[Qp8 9 _ (by omega)]
  · cases h⟩

def QbH (_:Nat) (n_:Int) (least_:Int) (most_:Int):Option (Bool):=(some ((decide (n_≥least_))&&(decide (n_≤most_))))
instance {fuel:Nat} {n_:Int} {least_:Int} {most_:Int}:LeC (QbH fuel n_ least_ most_) (Qa4 n_ least_ most_):=⟨by unfold QbH Qa4;exact leX⟩
def Qhx (_:Nat) (x_:Qj) (c0_:(Qj→Option Bool)):Option (Bool):=(c0_ x_).bind fun t6=>(some (!t6))
theorem QlZ {fuel:Nat} {x_:Qj} {c0_:(Qj→Option Bool)} {c0_':(Qj→Option Bool)} (hc0_:∀y0,Le (c0_ y0) (c0_' y0)):Le (Qhx fuel x_ c0_) (QdT x_ c0_'):=by
  unfold Qhx QdT
  repeat (first | with_reducible exact Le.rfl | with_reducible exact LeC.le | exact hc0_ _ | with_reducible refine Le.bind ?_ (fun _=>?_) | apply_assumption)
def QdP (fuel:Nat) (s_:(List Qj)) (f_:(Qj→Option Bool)):Option (Int):=(QaT fuel (fun (s4:Int)=>((if (decide (s4<(s_.length:Int)))=true then (idx s_ s4).bind fun t14=>(f_ t14).bind fun t16=>(if t16=true then (some (.inr (.inr s4))) else (some (.inl (IntKind.i64.wrap (s4+(1:Int)))))) else (some (.inr (.inl ())))):Option ((Int)⊕((Unit)⊕(Int))))) (0:Int)).bind fun (e5:(Unit)⊕(Int))=>(match e5 with | .inl _=>(some (-1:Int)) | .inr p23=>(some p23))
theorem Qhc {fuel:Nat} {s_:(List Qj)} {f_:(Qj→Option Bool)} {f_':(Qj→Option Bool)} (hf_:∀y0,Le (f_ y0) (f_' y0)):Le (QdP fuel s_ f_) (Qbd s_ f_'):=by
  unfold QdP Qbd
  repeat (first | with_reducible exact Le.rfl | with_reducible exact LeC.le | exact hf_ _ | with_reducible refine Le.bind ?_ (fun _=>?_) | with_reducible refine Le.ite ?_ ?_ | with_reducible refine Le.loop (fun _=>?_) | refine Le.sum (fun _=>?_) (fun _=>?_) | exact Le.rfl | (rename_i e;cases e<;>dsimp only) | apply_assumption)
def Qex (fuel:Nat) (s_:(List Qj)) (f_:(Qj→Option Bool)):Option (Bool):=(QdP fuel s_ f_).bind fun t7=>(some (decide (t7≥(0:Int))))
theorem Qjw {fuel:Nat} {s_:(List Qj)} {f_:(Qj→Option Bool)} {f_':(Qj→Option Bool)} (hf_:∀y0,Le (f_ y0) (f_' y0)):Le (Qex fuel s_ f_) (Qba s_ f_'):=by
  unfold Qex Qba
  repeat (first | with_reducible exact Le.rfl | with_reducible exact LeC.le | exact hf_ _ | with_reducible refine Qhc (fun _=>?_) | with_reducible refine Le.bind ?_ (fun _=>?_) | apply_assumption)
def Qik (fuel:Nat) (l_:(List Qj)) (right_:(Qj→Option Bool)):Option (Bool):=(Qex fuel l_ (fun x0=>Qhx fuel x0 right_)).bind fun t7=>(some (!t7))
theorem QmV {fuel:Nat} {l_:(List Qj)} {right_:(Qj→Option Bool)} {right_':(Qj→Option Bool)} (hright_:∀y0,Le (right_ y0) (right_' y0)):Le (Qik fuel l_ right_) (QcZ l_ right_'):=by
  unfold Qik QcZ
  repeat (first | with_reducible exact Le.rfl | with_reducible exact LeC.le | exact hright_ _ | with_reducible refine Qjw (fun _=>?_) | with_reducible refine QlZ (fun _=>?_) | with_reducible refine Le.bind ?_ (fun _=>?_) | apply_assumption)
def Qgo (_:Nat) (c_:Int):Option (Bool):=(some ((decide (c_≥(97:Int)))&&(decide (c_≤(122:Int)))))
instance {fuel:Nat} {c_:Int}:LeC (Qgo fuel c_) (Qc0 c_):=⟨by unfold Qgo Qc0;exact leX⟩
def QfD (fuel:Nat) (s_:(List Int)) (f_:(Int→Option Bool)):Option (Int):=(QaT fuel (fun (s4:Int)=>((if (decide (s4<(s_.length:Int)))=true then (idx s_ s4).bind fun t14=>(f_ t14).bind fun t16=>(if t16=true then (some (.inr (.inr s4))) else (some (.inl (IntKind.i64.wrap (s4+(1:Int)))))) else (some (.inr (.inl ())))):Option ((Int)⊕((Unit)⊕(Int))))) (0:Int)).bind fun (e5:(Unit)⊕(Int))=>(match e5 with | .inl _=>(some (-1:Int)) | .inr p23=>(some p23))
theorem Qkv {fuel:Nat} {s_:(List Int)} {f_:(Int→Option Bool)} {f_':(Int→Option Bool)} (hf_:∀y0,Le (f_ y0) (f_' y0)):Le (QfD fuel s_ f_) (Qbt s_ f_'):=by
  unfold QfD Qbt
  repeat (first | with_reducible exact Le.rfl | with_reducible exact LeC.le | exact hf_ _ | with_reducible refine Le.bind ?_ (fun _=>?_) | with_reducible refine Le.ite ?_ ?_ | with_reducible refine Le.loop (fun _=>?_) | refine Le.sum (fun _=>?_) (fun _=>?_) | exact Le.rfl | (rename_i e;cases e<;>dsimp only) | apply_assumption)
def Qey (fuel:Nat) (s_:(List Int)) (f_:(Int→Option Bool)):Option (Bool):=(QfD fuel s_ f_).bind fun t7=>(some (decide (t7≥(0:Int))))
theorem Qjx {fuel:Nat} {s_:(List Int)} {f_:(Int→Option Bool)} {f_':(Int→Option Bool)} (hf_:∀y0,Le (f_ y0) (f_' y0)):Le (Qey fuel s_ f_) (Qbb s_ f_'):=by
  unfold Qey Qbb
  repeat (first | with_reducible exact Le.rfl | with_reducible exact LeC.le | exact hf_ _ | with_reducible refine Qkv (fun _=>?_) | with_reducible refine Le.bind ?_ (fun _=>?_) | apply_assumption)
def Qi1 (_:Nat) (c_:Int):Option (Bool):=(some ((decide (c_≥(48:Int)))&&(decide (c_≤(57:Int)))))
instance {fuel:Nat} {c_:Int}:LeC (Qi1 fuel c_) (Qfq c_):=⟨by unfold Qi1 Qfq;exact leX⟩
def Qil (fuel:Nat) (c_:Int):Option (Bool):=(Qgo fuel c_).bind fun t4=>(opt ((!t4)==true) (Qi1 fuel c_) default).bind fun t8=>(some ((!t4)&&(!t8)))
instance {fuel:Nat} {c_:Int}:LeC (Qil fuel c_) (QeK c_):=⟨by unfold Qil QeK;exact leX⟩
def QaD (fuel:Nat) (s_:Str):Option (Bool):=(QbH fuel (s_.length:Int) (1:Int) (12:Int)).bind fun t5=>(opt ((!t5)==false) (idx s_ (0:Int)) default).bind fun t9=>(opt ((!t5)==false) (Qgo fuel ((t9).toNat:Int)) default).bind fun t10=>(if ((!t5)||(!t10))=true then (some false) else (Qey fuel (Q5 s_) (fun x0=>Qil fuel x0)).bind fun t15=>(some (!t15)))
instance {fuel:Nat} {s_:Str}:LeC (QaD fuel s_) (Qaq s_):=⟨by
  unfold QaD Qaq
  repeat (first | with_reducible exact Le.rfl | with_reducible exact LeC.le | with_reducible refine Qjx (fun _=>?_) | with_reducible refine Le.bind ?_ (fun _=>?_) | with_reducible refine Le.ite ?_ ?_ | with_reducible refine Le.opt ?_)⟩
def QdZ (_:Nat) (lo_:Int) (hi_:Int) (least_:Int) (most_:Int):Option (Bool):=(some (((decide (lo_≥least_))&&(decide (lo_≤hi_)))&&(decide (hi_≤most_))))
instance {fuel:Nat} {lo_:Int} {hi_:Int} {least_:Int} {most_:Int}:LeC (QdZ fuel lo_ hi_ least_ most_) (QcP lo_ hi_ least_ most_):=⟨by unfold QdZ QcP;exact leX⟩
def Qg1 (_:Nat) (x_:Qb) (c0_:(Qb→Option Bool)):Option (Bool):=(c0_ x_).bind fun t6=>(some (!t6))
theorem Qlv {fuel:Nat} {x_:Qb} {c0_:(Qb→Option Bool)} {c0_':(Qb→Option Bool)} (hc0_:∀y0,Le (c0_ y0) (c0_' y0)):Le (Qg1 fuel x_ c0_) (Qdz x_ c0_'):=by
  unfold Qg1 Qdz
  repeat (first | with_reducible exact Le.rfl | with_reducible exact LeC.le | exact hc0_ _ | with_reducible refine Le.bind ?_ (fun _=>?_) | apply_assumption)
def Qdw (fuel:Nat) (s_:(List Qb)) (f_:(Qb→Option Bool)):Option (Int):=(QaT fuel (fun (s4:Int)=>((if (decide (s4<(s_.length:Int)))=true then (idx s_ s4).bind fun t14=>(f_ t14).bind fun t16=>(if t16=true then (some (.inr (.inr s4))) else (some (.inl (IntKind.i64.wrap (s4+(1:Int)))))) else (some (.inr (.inl ())))):Option ((Int)⊕((Unit)⊕(Int))))) (0:Int)).bind fun (e5:(Unit)⊕(Int))=>(match e5 with | .inl _=>(some (-1:Int)) | .inr p23=>(some p23))
theorem QgP {fuel:Nat} {s_:(List Qb)} {f_:(Qb→Option Bool)} {f_':(Qb→Option Bool)} (hf_:∀y0,Le (f_ y0) (f_' y0)):Le (Qdw fuel s_ f_) (Qa8 s_ f_'):=by
  unfold Qdw Qa8
  repeat (first | with_reducible exact Le.rfl | with_reducible exact LeC.le | exact hf_ _ | with_reducible refine Le.bind ?_ (fun _=>?_) | with_reducible refine Le.ite ?_ ?_ | with_reducible refine Le.loop (fun _=>?_) | refine Le.sum (fun _=>?_) (fun _=>?_) | exact Le.rfl | (rename_i e;cases e<;>dsimp only) | apply_assumption)
def Qei (fuel:Nat) (s_:(List Qb)) (f_:(Qb→Option Bool)):Option (Bool):=(Qdw fuel s_ f_).bind fun t7=>(some (decide (t7≥(0:Int))))
theorem Qje {fuel:Nat} {s_:(List Qb)} {f_:(Qb→Option Bool)} {f_':(Qb→Option Bool)} (hf_:∀y0,Le (f_ y0) (f_' y0)):Le (Qei fuel s_ f_) (Qa7 s_ f_'):=by
  unfold Qei Qa7
  repeat (first | with_reducible exact Le.rfl | with_reducible exact LeC.le | exact hf_ _ | with_reducible refine QgP (fun _=>?_) | with_reducible refine Le.bind ?_ (fun _=>?_) | apply_assumption)
def QhS (fuel:Nat) (l_:(List Qb)) (right_:(Qb→Option Bool)):Option (Bool):=(Qei fuel l_ (fun x0=>Qg1 fuel x0 right_)).bind fun t7=>(some (!t7))
theorem QmF {fuel:Nat} {l_:(List Qb)} {right_:(Qb→Option Bool)} {right_':(Qb→Option Bool)} (hright_:∀y0,Le (right_ y0) (right_' y0)):Le (QhS fuel l_ right_) (Qcz l_ right_'):=by
  unfold QhS Qcz
  repeat (first | with_reducible exact Le.rfl | with_reducible exact LeC.le | exact hright_ _ | with_reducible refine Qje (fun _=>?_) | with_reducible refine Qlv (fun _=>?_) | with_reducible refine Le.bind ?_ (fun _=>?_) | apply_assumption)
def QkY (_:Nat) (f_:Qb):Option (Qb):=((if ((f_).Kind==(0:Int))=true then (some (Qb.mk (f_).Name ([]:Str) ([]:Str) (f_).Kind (f_).Lo (0:Int) ([]:(List Str)) ([]:(List Int)))) else ((if ((f_).Kind==(1:Int))=true then (some ((f_).Kind==(1:Int))) else ((if ((f_).Kind==(4:Int))=true then (some ((f_).Kind==(4:Int))) else (some ((f_).Kind==(5:Int))))).bind fun (p535:Bool)=>(some p535))).bind fun (p277:Bool)=>((if p277=true then (some (Qb.mk (f_).Name (f_).Of ([]:Str) (f_).Kind (f_).Lo (f_).Hi ([]:(List Str)) ([]:(List Int)))) else ((if ((f_).Kind==(2:Int))=true then (some (Qb.mk (f_).Name ([]:Str) ([]:Str) (f_).Kind (f_).Lo (f_).Hi ([]:(List Str)) ([]:(List Int)))) else ((if ((f_).Kind==(3:Int))=true then (some (Qb.mk (f_).Name ([]:Str) ([]:Str) (f_).Kind (0:Int) (0:Int) (f_).Words (f_).Weights)) else ((if ((f_).Kind==(6:Int))=true then (some (Qb.mk (f_).Name (f_).Of ([]:Str) (f_).Kind (0:Int) (0:Int) ([]:(List Str)) ([]:(List Int)))) else ((if ((f_).Kind==(7:Int))=true then (some (Qb.mk (f_).Name (f_).Of (f_).Up (f_).Kind (f_).Lo (f_).Hi ([]:(List Str)) ([]:(List Int)))) else ((if ((f_).Kind==(8:Int))=true then (some (Qb.mk (f_).Name (f_).Of (f_).Up (f_).Kind (0:Int) (0:Int) ([]:(List Str)) ([]:(List Int)))) else (some (Qb.mk (f_).Name ([]:Str) ([]:Str) (f_).Kind (0:Int) (0:Int) ([]:(List Str)) ([]:(List Int)))))).bind fun (p526:Qb)=>(some p526))).bind fun (p519:Qb)=>(some p519))).bind fun (p504:Qb)=>(some p504))).bind fun (p473:Qb)=>(some p473))).bind fun (p410:Qb)=>(some p410))).bind fun (p283:Qb)=>(some p283))).bind fun (p8:Qb)=>(some p8)
instance {fuel:Nat} {f_:Qb}:LeC (QkY fuel f_) (QeL f_):=⟨by unfold QkY QeL;exact leX⟩
def Qgp (fuel:Nat) (s1_:(List Str)) (s2_:(List Str)):Option (Bool):=(if ((s1_.length:Int) !=(s2_.length:Int))=true then (some false) else (QaT fuel (fun (s7:Int)=>((if (decide (s7<(s1_.length:Int)))=true then (idx s1_ s7).bind fun t18=>(idx s2_ s7).bind fun t22=>(if (t18 !=t22)=true then (some (.inr (.inr false))) else (some (.inl (IntKind.i64.wrap (s7+(1:Int)))))) else (some (.inr (.inl ())))):Option ((Int)⊕((Unit)⊕(Bool))))) (0:Int)).bind fun (e8:(Unit)⊕(Bool))=>(match e8 with | .inl _=>(some true) | .inr p26=>(some p26)))
instance {fuel:Nat} {s1_:(List Str)} {s2_:(List Str)}:LeC (Qgp fuel s1_ s2_) (QbV s1_ s2_):=⟨by unfold Qgp QbV;exact leX⟩
def QhT (fuel:Nat) (s1_:(List Int)) (s2_:(List Int)):Option (Bool):=(if ((s1_.length:Int) !=(s2_.length:Int))=true then (some false) else (QaT fuel (fun (s7:Int)=>((if (decide (s7<(s1_.length:Int)))=true then (idx s1_ s7).bind fun t18=>(idx s2_ s7).bind fun t22=>(if (t18 !=t22)=true then (some (.inr (.inr false))) else (some (.inl (IntKind.i64.wrap (s7+(1:Int)))))) else (some (.inr (.inl ())))):Option ((Int)⊕((Unit)⊕(Bool))))) (0:Int)).bind fun (e8:(Unit)⊕(Bool))=>(match e8 with | .inl _=>(some true) | .inr p26=>(some p26)))
instance {fuel:Nat} {s1_:(List Int)} {s2_:(List Int)}:LeC (QhT fuel s1_ s2_) (QcA s1_ s2_):=⟨by unfold QhT QcA;exact leX⟩
def QhU (fuel:Nat) (a_:Qb) (b_:Qb):Option (Bool):=(opt ((((((((a_).Name==(b_).Name)&&((a_).Of==(b_).Of))&&((a_).Up==(b_).Up))&&((a_).Kind==(b_).Kind))&&((a_).Lo==(b_).Lo))&&((a_).Hi==(b_).Hi))==true) (Qgp fuel (a_).Words (b_).Words) default).bind fun t50=>(opt (((((((((a_).Name==(b_).Name)&&((a_).Of==(b_).Of))&&((a_).Up==(b_).Up))&&((a_).Kind==(b_).Kind))&&((a_).Lo==(b_).Lo))&&((a_).Hi==(b_).Hi))&&t50)==true) (QhT fuel (a_).Weights (b_).Weights) default).bind fun t57=>(some (((((((((a_).Name==(b_).Name)&&((a_).Of==(b_).Of))&&((a_).Up==(b_).Up))&&((a_).Kind==(b_).Kind))&&((a_).Lo==(b_).Lo))&&((a_).Hi==(b_).Hi))&&t50)&&t57))
instance {fuel:Nat} {a_:Qb} {b_:Qb}:LeC (QhU fuel a_ b_) (QcB a_ b_):=⟨by unfold QhU QcB;exact leX⟩
def Qgq (_:Nat) (x_:Str) (c0_:(Str→Option Bool)):Option (Bool):=(c0_ x_).bind fun t6=>(some (!t6))
theorem Qk7 {fuel:Nat} {x_:Str} {c0_:(Str→Option Bool)} {c0_':(Str→Option Bool)} (hc0_:∀y0,Le (c0_ y0) (c0_' y0)):Le (Qgq fuel x_ c0_) (Qdg x_ c0_'):=by
  unfold Qgq Qdg
  repeat (first | with_reducible exact Le.rfl | with_reducible exact LeC.le | exact hc0_ _ | with_reducible refine Le.bind ?_ (fun _=>?_) | apply_assumption)
def QeU (fuel:Nat) (s_:(List Str)) (f_:(Str→Option Bool)):Option (Int):=(QaT fuel (fun (s4:Int)=>((if (decide (s4<(s_.length:Int)))=true then (idx s_ s4).bind fun t14=>(f_ t14).bind fun t16=>(if t16=true then (some (.inr (.inr s4))) else (some (.inl (IntKind.i64.wrap (s4+(1:Int)))))) else (some (.inr (.inl ())))):Option ((Int)⊕((Unit)⊕(Int))))) (0:Int)).bind fun (e5:(Unit)⊕(Int))=>(match e5 with | .inl _=>(some (-1:Int)) | .inr p23=>(some p23))
theorem Qj6 {fuel:Nat} {s_:(List Str)} {f_:(Str→Option Bool)} {f_':(Str→Option Bool)} (hf_:∀y0,Le (f_ y0) (f_' y0)):Le (QeU fuel s_ f_) (Qbh s_ f_'):=by
  unfold QeU Qbh
  repeat (first | with_reducible exact Le.rfl | with_reducible exact LeC.le | exact hf_ _ | with_reducible refine Le.bind ?_ (fun _=>?_) | with_reducible refine Le.ite ?_ ?_ | with_reducible refine Le.loop (fun _=>?_) | refine Le.sum (fun _=>?_) (fun _=>?_) | exact Le.rfl | (rename_i e;cases e<;>dsimp only) | apply_assumption)
def Qd0 (fuel:Nat) (s_:(List Str)) (f_:(Str→Option Bool)):Option (Bool):=(QeU fuel s_ f_).bind fun t7=>(some (decide (t7≥(0:Int))))
theorem Qi2 {fuel:Nat} {s_:(List Str)} {f_:(Str→Option Bool)} {f_':(Str→Option Bool)} (hf_:∀y0,Le (f_ y0) (f_' y0)):Le (Qd0 fuel s_ f_) (QaZ s_ f_'):=by
  unfold Qd0 QaZ
  repeat (first | with_reducible exact Le.rfl | with_reducible exact LeC.le | exact hf_ _ | with_reducible refine Qj6 (fun _=>?_) | with_reducible refine Le.bind ?_ (fun _=>?_) | apply_assumption)
def Qfz (fuel:Nat) (l_:(List Str)) (right_:(Str→Option Bool)):Option (Bool):=(Qd0 fuel l_ (fun x0=>Qgq fuel x0 right_)).bind fun t7=>(some (!t7))
theorem QiE {fuel:Nat} {l_:(List Str)} {right_:(Str→Option Bool)} {right_':(Str→Option Bool)} (hright_:∀y0,Le (right_ y0) (right_' y0)):Le (Qfz fuel l_ right_) (QbR l_ right_'):=by
  unfold Qfz QbR
  repeat (first | with_reducible exact Le.rfl | with_reducible exact LeC.le | exact hright_ _ | with_reducible refine Qi2 (fun _=>?_) | with_reducible refine Qk7 (fun _=>?_) | with_reducible refine Le.bind ?_ (fun _=>?_) | apply_assumption)
def Qjy (fuel:Nat) (words_:(List Str)) (weights_:(List Int)):Option (Bool):=(QaT fuel (fun (s5:Int×Int)=>((if (decide (s5.1<(weights_.length:Int)))=true then (idx weights_ s5.1).bind fun t12=>(QbH fuel t12 (0:Int) (1048576:Int)).bind fun t15=>(if (!t15)=true then (some (.inr (.inr false))) else (some (.inl ((IntKind.i64.wrap (s5.1+(1:Int))),(IntKind.i64.wrap (s5.2+t12)))))) else (some (.inr (.inl s5.2)))):Option ((Int×Int)⊕((Int)⊕(Bool))))) ((0:Int),(0:Int))).bind fun (e6:(Int)⊕(Bool))=>(match e6 with | .inl p25=>(QbH fuel (words_.length:Int) (1:Int) (12:Int)).bind fun t23=>(opt (((t23&&((words_.length:Int)==(weights_.length:Int)))&&(decide (p25>(0:Int))))==true) (Qfz fuel words_ (fun x0=>QaD fuel x0)) default).bind fun t37=>(some (((t23&&((words_.length:Int)==(weights_.length:Int)))&&(decide (p25>(0:Int))))&&t37)) | .inr p26=>(some p26))
instance {fuel:Nat} {words_:(List Str)} {weights_:(List Int)}:LeC (Qjy fuel words_ weights_) (Qcr words_ weights_):=⟨by
  unfold Qjy Qcr
  repeat (first | with_reducible exact Le.rfl | with_reducible exact LeC.le | with_reducible refine QiE (fun _=>?_) | with_reducible refine Le.bind ?_ (fun _=>?_) | with_reducible refine Le.ite ?_ ?_ | with_reducible refine Le.loop (fun _=>?_) | with_reducible refine Le.opt ?_ | refine Le.sum (fun _=>?_) (fun _=>?_) | exact Le.rfl | (rename_i e;cases e<;>dsimp only))⟩
def Qi3 (fuel:Nat) (f_:Qb):Option (Bool):=(QaD fuel (f_).Name).bind fun t5=>(opt ((!t5)==false) (QkY fuel f_) default).bind fun t10=>(opt ((!t5)==false) (QhU fuel f_ t10) default).bind fun t11=>(if ((!t5)||(!t11))=true then (some false) else (if ((f_).Kind==(0:Int))=true then (QbH fuel (f_).Lo (-1048576:Int) (1048576:Int)).bind fun t20=>(some t20) else (if ((f_).Kind==(1:Int))=true then (QaD fuel (f_).Of).bind fun t25=>(opt (t25==true) (QdZ fuel (f_).Lo (f_).Hi (0:Int) (65536:Int)) default).bind fun t31=>(some (t25&&t31)) else (if ((f_).Kind==(2:Int))=true then (QdZ fuel (f_).Lo (f_).Hi (-1048576:Int) (1048576:Int)).bind fun t39=>(some t39) else (if ((f_).Kind==(3:Int))=true then (Qjy fuel (f_).Words (f_).Weights).bind fun t46=>(some t46) else (if ((f_).Kind==(4:Int))=true then (opt (((f_).Of==([]:Str))==false) (QaD fuel (f_).Of) default).bind fun t55=>(opt ((((f_).Of==([]:Str))||t55)==true) (QdZ fuel (f_).Lo (f_).Hi (-1048576:Int) (1048576:Int)) default).bind fun t62=>(some ((((f_).Of==([]:Str))||t55)&&t62)) else (if ((f_).Kind==(5:Int))=true then (QaD fuel (f_).Of).bind fun t68=>(opt (t68==true) (QdZ fuel (f_).Lo (f_).Hi (0:Int) (32:Int)) default).bind fun t74=>(some (t68&&t74)) else (if ((f_).Kind==(6:Int))=true then (QaD fuel (f_).Of).bind fun t80=>(some t80) else (if ((f_).Kind==(7:Int))=true then (QaD fuel (f_).Of).bind fun t85=>(opt (t85==true) (QaD fuel (f_).Up) default).bind fun t89=>(opt ((t85&&t89)==true) (QdZ fuel (f_).Lo (f_).Hi (0:Int) (1048576:Int)) default).bind fun t96=>(some ((t85&&t89)&&t96)) else (if ((f_).Kind==(8:Int))=true then (QaD fuel (f_).Of).bind fun t102=>(opt (t102==true) (QaD fuel (f_).Up) default).bind fun t106=>(some (t102&&t106)) else (some false)))))))))))
instance {fuel:Nat} {f_:Qb}:LeC (Qi3 fuel f_) (Qdh f_):=⟨by unfold Qi3 Qdh;exact leX⟩
def Qjz (fuel:Nat) (k_:Qj):Option (Bool):=(QaD fuel (k_).Name).bind fun t5=>(opt (t5==true) (QdZ fuel (k_).Lo (k_).Hi (0:Int) (65536:Int)) default).bind fun t11=>(opt (((t5&&t11)&&(decide (((k_).Fields.length:Int)≤(10:Int))))==true) (QhS fuel (k_).Fields (fun x0=>Qi3 fuel x0)) default).bind fun t22=>(some (((t5&&t11)&&(decide (((k_).Fields.length:Int)≤(10:Int))))&&t22))
instance {fuel:Nat} {k_:Qj}:LeC (Qjz fuel k_) (QdC k_):=⟨by
  unfold Qjz QdC
  repeat (first | with_reducible exact Le.rfl | with_reducible exact LeC.le | with_reducible refine QmF (fun _=>?_) | with_reducible refine Le.bind ?_ (fun _=>?_) | with_reducible refine Le.opt ?_)⟩
def Qhy (_:Nat) (x_:Qn) (c0_:(Qn→Option Bool)):Option (Bool):=(c0_ x_).bind fun t6=>(some (!t6))
theorem Ql0 {fuel:Nat} {x_:Qn} {c0_:(Qn→Option Bool)} {c0_':(Qn→Option Bool)} (hc0_:∀y0,Le (c0_ y0) (c0_' y0)):Le (Qhy fuel x_ c0_) (QdU x_ c0_'):=by
  unfold Qhy QdU
  repeat (first | with_reducible exact Le.rfl | with_reducible exact LeC.le | exact hc0_ _ | with_reducible refine Le.bind ?_ (fun _=>?_) | apply_assumption)
def QfE (fuel:Nat) (s_:(List Qn)) (f_:(Qn→Option Bool)):Option (Int):=(QaT fuel (fun (s4:Int)=>((if (decide (s4<(s_.length:Int)))=true then (idx s_ s4).bind fun t14=>(f_ t14).bind fun t16=>(if t16=true then (some (.inr (.inr s4))) else (some (.inl (IntKind.i64.wrap (s4+(1:Int)))))) else (some (.inr (.inl ())))):Option ((Int)⊕((Unit)⊕(Int))))) (0:Int)).bind fun (e5:(Unit)⊕(Int))=>(match e5 with | .inl _=>(some (-1:Int)) | .inr p23=>(some p23))
theorem Qkw {fuel:Nat} {s_:(List Qn)} {f_:(Qn→Option Bool)} {f_':(Qn→Option Bool)} (hf_:∀y0,Le (f_ y0) (f_' y0)):Le (QfE fuel s_ f_) (Qbu s_ f_'):=by
  unfold QfE Qbu
  repeat (first | with_reducible exact Le.rfl | with_reducible exact LeC.le | exact hf_ _ | with_reducible refine Le.bind ?_ (fun _=>?_) | with_reducible refine Le.ite ?_ ?_ | with_reducible refine Le.loop (fun _=>?_) | refine Le.sum (fun _=>?_) (fun _=>?_) | exact Le.rfl | (rename_i e;cases e<;>dsimp only) | apply_assumption)
def Qb6 (fuel:Nat) (s_:(List Qn)) (f_:(Qn→Option Bool)):Option (Bool):=(QfE fuel s_ f_).bind fun t7=>(some (decide (t7≥(0:Int))))
theorem QdL {fuel:Nat} {s_:(List Qn)} {f_:(Qn→Option Bool)} {f_':(Qn→Option Bool)} (hf_:∀y0,Le (f_ y0) (f_' y0)):Le (Qb6 fuel s_ f_) (QaJ s_ f_'):=by
  unfold Qb6 QaJ
  repeat (first | with_reducible exact Le.rfl | with_reducible exact LeC.le | exact hf_ _ | with_reducible refine Qkw (fun _=>?_) | with_reducible refine Le.bind ?_ (fun _=>?_) | apply_assumption)
def Qim (fuel:Nat) (l_:(List Qn)) (right_:(Qn→Option Bool)):Option (Bool):=(Qb6 fuel l_ (fun x0=>Qhy fuel x0 right_)).bind fun t7=>(some (!t7))
theorem QmW {fuel:Nat} {l_:(List Qn)} {right_:(Qn→Option Bool)} {right_':(Qn→Option Bool)} (hright_:∀y0,Le (right_ y0) (right_' y0)):Le (Qim fuel l_ right_) (Qc1 l_ right_'):=by
  unfold Qim Qc1
  repeat (first | with_reducible exact Le.rfl | with_reducible exact LeC.le | exact hright_ _ | with_reducible refine QdL (fun _=>?_) | with_reducible refine Ql0 (fun _=>?_) | with_reducible refine Le.bind ?_ (fun _=>?_) | apply_assumption)
def Qin (fuel:Nat) (m_:QU) (c0_:Int):Option (Bool):=(QbH fuel (m_).a0 (0:Int) (IntKind.i64.wrap (c0_ - (1:Int)))).bind fun t8=>(opt (t8==true) (QbH fuel (m_).a1 (0:Int) (IntKind.i64.wrap (c0_ - (1:Int)))) default).bind fun t14=>(some (t8&&t14))
instance {fuel:Nat} {m_:QU} {c0_:Int}:LeC (Qin fuel m_ c0_) (Qc2 m_ c0_):=⟨by unfold Qin Qc2;exact leX⟩
def Qgr (_:Nat) (x_:QU) (c0_:(QU→Option Bool)):Option (Bool):=(c0_ x_).bind fun t6=>(some (!t6))
theorem Qk8 {fuel:Nat} {x_:QU} {c0_:(QU→Option Bool)} {c0_':(QU→Option Bool)} (hc0_:∀y0,Le (c0_ y0) (c0_' y0)):Le (Qgr fuel x_ c0_) (Qdi x_ c0_'):=by
  unfold Qgr Qdi
  repeat (first | with_reducible exact Le.rfl | with_reducible exact LeC.le | exact hc0_ _ | with_reducible refine Le.bind ?_ (fun _=>?_) | apply_assumption)
def QeV (fuel:Nat) (s_:(List QU)) (f_:(QU→Option Bool)):Option (Int):=(QaT fuel (fun (s4:Int)=>((if (decide (s4<(s_.length:Int)))=true then (idx s_ s4).bind fun t14=>(f_ t14).bind fun t16=>(if t16=true then (some (.inr (.inr s4))) else (some (.inl (IntKind.i64.wrap (s4+(1:Int)))))) else (some (.inr (.inl ())))):Option ((Int)⊕((Unit)⊕(Int))))) (0:Int)).bind fun (e5:(Unit)⊕(Int))=>(match e5 with | .inl _=>(some (-1:Int)) | .inr p23=>(some p23))
theorem Qj7 {fuel:Nat} {s_:(List QU)} {f_:(QU→Option Bool)} {f_':(QU→Option Bool)} (hf_:∀y0,Le (f_ y0) (f_' y0)):Le (QeV fuel s_ f_) (Qbi s_ f_'):=by
  unfold QeV Qbi
  repeat (first | with_reducible exact Le.rfl | with_reducible exact LeC.le | exact hf_ _ | with_reducible refine Le.bind ?_ (fun _=>?_) | with_reducible refine Le.ite ?_ ?_ | with_reducible refine Le.loop (fun _=>?_) | refine Le.sum (fun _=>?_) (fun _=>?_) | exact Le.rfl | (rename_i e;cases e<;>dsimp only) | apply_assumption)
def Qd1 (fuel:Nat) (s_:(List QU)) (f_:(QU→Option Bool)):Option (Bool):=(QeV fuel s_ f_).bind fun t7=>(some (decide (t7≥(0:Int))))
theorem Qi4 {fuel:Nat} {s_:(List QU)} {f_:(QU→Option Bool)} {f_':(QU→Option Bool)} (hf_:∀y0,Le (f_ y0) (f_' y0)):Le (Qd1 fuel s_ f_) (Qa0 s_ f_'):=by
  unfold Qd1 Qa0
  repeat (first | with_reducible exact Le.rfl | with_reducible exact LeC.le | exact hf_ _ | with_reducible refine Qj7 (fun _=>?_) | with_reducible refine Le.bind ?_ (fun _=>?_) | apply_assumption)
def Qhz (fuel:Nat) (l_:(List QU)) (right_:(QU→Option Bool)):Option (Bool):=(Qd1 fuel l_ (fun x0=>Qgr fuel x0 right_)).bind fun t7=>(some (!t7))
theorem Ql1 {fuel:Nat} {l_:(List QU)} {right_:(QU→Option Bool)} {right_':(QU→Option Bool)} (hright_:∀y0,Le (right_ y0) (right_' y0)):Le (Qhz fuel l_ right_) (Qcc l_ right_'):=by
  unfold Qhz Qcc
  repeat (first | with_reducible exact Le.rfl | with_reducible exact LeC.le | exact hright_ _ | with_reducible refine Qi4 (fun _=>?_) | with_reducible refine Qk8 (fun _=>?_) | with_reducible refine Le.bind ?_ (fun _=>?_) | apply_assumption)
def QjA (fuel:Nat) (x_:Qn):Option (Bool):=(QaD fuel (x_).Name).bind fun t9=>(opt (t9==true) (QbH fuel ((x_).States.length:Int) (1:Int) (12:Int)) default).bind fun t12=>(opt ((t9&&t12)==true) (Qfz fuel (x_).States (fun x0=>QaD fuel x0)) default).bind fun t17=>(opt ((((t9&&t12)&&t17)&&(decide (((x_).Moves.length:Int)≤(32:Int))))==true) (Qhz fuel (x_).Moves (fun x0=>Qin fuel x0 ((x_).States.length:Int))) default).bind fun t29=>(some ((((t9&&t12)&&t17)&&(decide (((x_).Moves.length:Int)≤(32:Int))))&&t29))
instance {fuel:Nat} {x_:Qn}:LeC (QjA fuel x_) (QdD x_):=⟨by
  unfold QjA QdD
  repeat (first | with_reducible exact Le.rfl | with_reducible exact LeC.le | with_reducible refine QiE (fun _=>?_) | with_reducible refine Ql1 (fun _=>?_) | with_reducible refine Le.bind ?_ (fun _=>?_) | with_reducible refine Le.opt ?_)⟩
def QhA (_:Nat) (x_:Qm) (c0_:(Qm→Option Bool)):Option (Bool):=(c0_ x_).bind fun t6=>(some (!t6))
theorem Ql2 {fuel:Nat} {x_:Qm} {c0_:(Qm→Option Bool)} {c0_':(Qm→Option Bool)} (hc0_:∀y0,Le (c0_ y0) (c0_' y0)):Le (QhA fuel x_ c0_) (QdW x_ c0_'):=by
  unfold QhA QdW
  repeat (first | with_reducible exact Le.rfl | with_reducible exact LeC.le | exact hc0_ _ | with_reducible refine Le.bind ?_ (fun _=>?_) | apply_assumption)
def QfF (fuel:Nat) (s_:(List Qm)) (f_:(Qm→Option Bool)):Option (Int):=(QaT fuel (fun (s4:Int)=>((if (decide (s4<(s_.length:Int)))=true then (idx s_ s4).bind fun t14=>(f_ t14).bind fun t16=>(if t16=true then (some (.inr (.inr s4))) else (some (.inl (IntKind.i64.wrap (s4+(1:Int)))))) else (some (.inr (.inl ())))):Option ((Int)⊕((Unit)⊕(Int))))) (0:Int)).bind fun (e5:(Unit)⊕(Int))=>(match e5 with | .inl _=>(some (-1:Int)) | .inr p23=>(some p23))
theorem Qkx {fuel:Nat} {s_:(List Qm)} {f_:(Qm→Option Bool)} {f_':(Qm→Option Bool)} (hf_:∀y0,Le (f_ y0) (f_' y0)):Le (QfF fuel s_ f_) (Qbv s_ f_'):=by
  unfold QfF Qbv
  repeat (first | with_reducible exact Le.rfl | with_reducible exact LeC.le | exact hf_ _ | with_reducible refine Le.bind ?_ (fun _=>?_) | with_reducible refine Le.ite ?_ ?_ | with_reducible refine Le.loop (fun _=>?_) | refine Le.sum (fun _=>?_) (fun _=>?_) | exact Le.rfl | (rename_i e;cases e<;>dsimp only) | apply_assumption)
def Qdb (fuel:Nat) (s_:(List Qm)) (f_:(Qm→Option Bool)):Option (Bool):=(QfF fuel s_ f_).bind fun t7=>(some (decide (t7≥(0:Int))))
theorem Qf3 {fuel:Nat} {s_:(List Qm)} {f_:(Qm→Option Bool)} {f_':(Qm→Option Bool)} (hf_:∀y0,Le (f_ y0) (f_' y0)):Le (Qdb fuel s_ f_) (QaS s_ f_'):=by
  unfold Qdb QaS
  repeat (first | with_reducible exact Le.rfl | with_reducible exact LeC.le | exact hf_ _ | with_reducible refine Qkx (fun _=>?_) | with_reducible refine Le.bind ?_ (fun _=>?_) | apply_assumption)
def Qio (fuel:Nat) (l_:(List Qm)) (right_:(Qm→Option Bool)):Option (Bool):=(Qdb fuel l_ (fun x0=>QhA fuel x0 right_)).bind fun t7=>(some (!t7))
theorem QmX {fuel:Nat} {l_:(List Qm)} {right_:(Qm→Option Bool)} {right_':(Qm→Option Bool)} (hright_:∀y0,Le (right_ y0) (right_' y0)):Le (Qio fuel l_ right_) (Qc3 l_ right_'):=by
  unfold Qio Qc3
  repeat (first | with_reducible exact Le.rfl | with_reducible exact LeC.le | exact hright_ _ | with_reducible refine Qf3 (fun _=>?_) | with_reducible refine Ql2 (fun _=>?_) | with_reducible refine Le.bind ?_ (fun _=>?_) | apply_assumption)
def QjB (fuel:Nat) (r_:Qm):Option (Bool):=(QaD fuel (r_).Name).bind fun t5=>(opt (t5==true) (QaD fuel (r_).Kind) default).bind fun t9=>(opt (((t5&&t9)==true)&&(((r_).A==([]:Str))==false)) (QaD fuel (r_).A) default).bind fun t18=>(opt ((((t5&&t9)&&(((r_).A==([]:Str))||t18))==true)&&(((r_).B==([]:Str))==false)) (QaD fuel (r_).B) default).bind fun t28=>(opt ((((t5&&t9)&&(((r_).A==([]:Str))||t18))&&(((r_).B==([]:Str))||t28))==true) (cat ((r_).A.length+(r_).B.length)) default).bind fun _=>(opt (((((t5&&t9)&&(((r_).A==([]:Str))||t18))&&(((r_).B==([]:Str))||t28))&&(((r_).A++(r_).B) !=([]:Str)))==true) (QbH fuel (r_).N (-1048576:Int) (1048576:Int)) default).bind fun t42=>(some (((((t5&&t9)&&(((r_).A==([]:Str))||t18))&&(((r_).B==([]:Str))||t28))&&(((r_).A++(r_).B) !=([]:Str)))&&t42))
instance {fuel:Nat} {r_:Qm}:LeC (QjB fuel r_) (QdE r_):=⟨by unfold QjB QdE;exact leX⟩
def Qbs (fuel:Nat) (word_:Str) (l_:(List AnyV)):Option (Str):=(Qay ([]:Str) word_).bind fun t11=>(QaT fuel (fun (s7:Int×Str)=>((if (decide (s7.1<(l_.length:Int)))=true then (idx l_ s7.1).bind fun t16=>(Qh1 s7.2 (32:Int)).bind fun t18=>((if (t16).asInt.2=true then (QsU (t16).asInt.1).bind fun t24=>(Qay t18 t24).bind fun t25=>(some t25) else ((if (t16).asStr.2=true then (Qay t18 (t16).asStr.1).bind fun t30=>(some t30) else (some t18))).bind fun (p90:Str)=>(some p90))).bind fun (p77:Str)=>(some (.inl ((IntKind.i64.wrap (s7.1+(1:Int))),p77))) else (some (.inr s7.2))):Option ((Int×Str)⊕((Str))))) ((0:Int),t11)).bind fun (p66:(Str))=>(Qgh p66).bind fun t32=>(cat (t32.length+([10]:Str).length)).bind fun _=>(some (t32++([10]:Str)))
instance {fuel:Nat} {word_:Str} {l_:(List AnyV)}:LeC (Qbs fuel word_ l_) (QaF word_ l_):=⟨by unfold Qbs QaF;exact leX⟩
def QjC (fuel:Nat) (vals_:(List Str)):Option (Str):=(QaT fuel (fun (s5:Int)=>((if (decide (s5<(vals_.length:Int)))=true then (idx vals_ s5).bind fun t10=>(if (t10 !=([]:Str))=true then (some (.inr (.inr t10))) else (some (.inl (IntKind.i64.wrap (s5+(1:Int)))))) else (some (.inr (.inl ())))):Option ((Int)⊕((Unit)⊕(Str))))) (0:Int)).bind fun (e6:(Unit)⊕(Str))=>(match e6 with | .inl _=>(some ([]:Str)) | .inr p24=>(some p24))
instance {fuel:Nat} {vals_:(List Str)}:LeC (QjC fuel vals_) (QeC vals_):=⟨by unfold QjC QeC;exact leX⟩
def QgQ (fuel:Nat) (s_:Str):Option (Str):=(QjC fuel [s_,([45]:Str)]).bind fun t5=>(some t5)
instance {fuel:Nat} {s_:Str}:LeC (QgQ fuel s_) (QcV s_):=⟨by unfold QgQ QcV;exact leX⟩
def Qkd (fuel:Nat) (f_:Qb):Option (Str):=(idx QkK (f_).Kind).bind fun t9=>(if ((f_).Kind==(0:Int))=true then (Qbs fuel t9 [(AnyV.str (f_).Name),(AnyV.int (f_).Lo)]).bind fun t23=>(some t23) else (if ((f_).Kind==(2:Int))=true then (Qbs fuel t9 [(AnyV.str (f_).Name),(AnyV.int (f_).Lo),(AnyV.int (f_).Hi)]).bind fun t37=>(some t37) else (if ((f_).Kind==(3:Int))=true then (QaT fuel (fun (s14:Int×List AnyV)=>((if (decide (s14.1<((f_).Words.length:Int)))=true then (idx (f_).Words s14.1).bind fun t54=>(idx (f_).Weights s14.1).bind fun t62=>(rm (s14.2.length+[(AnyV.str t54),(AnyV.int t62)].length)).bind fun _=>(some (.inl ((IntKind.i64.wrap (s14.1+(1:Int))),(s14.2++[(AnyV.str t54),(AnyV.int t62)])))) else (some (.inr s14.2))):Option ((Int×List AnyV)⊕((List AnyV))))) ((0:Int),[(AnyV.str (f_).Name),(AnyV.int ((f_).Words.length:Int))])).bind fun (p27:(List AnyV))=>(Qbs fuel t9 p27).bind fun t70=>(some t70) else (if ((f_).Kind==(6:Int))=true then (Qbs fuel t9 [(AnyV.str (f_).Name),(AnyV.str (f_).Of)]).bind fun t81=>(some t81) else (if ((f_).Kind==(7:Int))=true then (Qbs fuel t9 [(AnyV.str (f_).Name),(AnyV.str (f_).Up),(AnyV.str (f_).Of),(AnyV.int (f_).Lo),(AnyV.int (f_).Hi)]).bind fun t101=>(some t101) else (if ((f_).Kind==(8:Int))=true then (Qbs fuel t9 [(AnyV.str (f_).Name),(AnyV.str (f_).Up),(AnyV.str (f_).Of)]).bind fun t115=>(some t115) else (QgQ fuel (f_).Of).bind fun t122=>(Qbs fuel t9 [(AnyV.str (f_).Name),(AnyV.str t122),(AnyV.int (f_).Lo),(AnyV.int (f_).Hi)]).bind fun t131=>(some t131)))))))
instance {fuel:Nat} {f_:Qb}:LeC (Qkd fuel f_) (Qeb f_):=⟨by unfold Qkd Qeb;exact leX⟩
def QjD (fuel:Nat) (x_:Qg):Option (Str):=(Qbs fuel ([115,99,104,101,109,97]:Str) [(AnyV.int (x_).Version)]).bind fun t21=>(Qay ([]:Str) t21).bind fun t22=>(QaT fuel (fun (s7:Int×Str)=>((if (decide (s7.1<((x_).Kinds.length:Int)))=true then (idx (x_).Kinds s7.1).bind fun t28=>(Qbs fuel ([107,105,110,100]:Str) [(AnyV.str (t28).Name),(AnyV.int (t28).Lo),(AnyV.int (t28).Hi)]).bind fun t40=>(Qay s7.2 t40).bind fun t41=>(QaT fuel (fun (s290:Int×Str)=>((if (decide (s290.1<((t28).Fields.length:Int)))=true then (idx (t28).Fields s290.1).bind fun t47=>(Qkd fuel t47).bind fun t50=>(Qay s290.2 t50).bind fun t51=>(some (.inl ((IntKind.i64.wrap (s290.1+(1:Int))),t51))) else (some (.inr s290.2))):Option ((Int×Str)⊕((Str))))) ((0:Int),t41)).bind fun (p305:(Str))=>(some (.inl ((IntKind.i64.wrap (s7.1+(1:Int))),p305))) else (some (.inr s7.2))):Option ((Int×Str)⊕((Str))))) ((0:Int),t22)).bind fun (p74:(Str))=>(QaT fuel (fun (s78:Int×Str)=>((if (decide (s78.1<((x_).Lives.length:Int)))=true then (idx (x_).Lives s78.1).bind fun t59=>(QaT fuel (fun (s234:Int×List AnyV)=>((if (decide (s234.1<((t59).States.length:Int)))=true then (idx (t59).States s234.1).bind fun t74=>(rm (s234.2.length+[(AnyV.str t74)].length)).bind fun _=>(some (.inl ((IntKind.i64.wrap (s234.1+(1:Int))),(s234.2++[(AnyV.str t74)])))) else (some (.inr s234.2))):Option ((Int×List AnyV)⊕((List AnyV))))) ((0:Int),[(AnyV.str (t59).Name),(AnyV.int ((t59).States.length:Int))])).bind fun (p247:(List AnyV))=>(Qbs fuel ([108,105,102,101]:Str) p247).bind fun t83=>(Qay s78.2 t83).bind fun t84=>(QaT fuel (fun (s251:Int×Str)=>((if (decide (s251.1<((t59).Moves.length:Int)))=true then (idx (t59).Moves s251.1).bind fun t90=>(Qbs fuel ([109,111,118,101]:Str) [(AnyV.int (t90).a0),(AnyV.int (t90).a1)]).bind fun t99=>(Qay s251.2 t99).bind fun t100=>(some (.inl ((IntKind.i64.wrap (s251.1+(1:Int))),t100))) else (some (.inr s251.2))):Option ((Int×Str)⊕((Str))))) ((0:Int),t84)).bind fun (p266:(Str))=>(some (.inl ((IntKind.i64.wrap (s78.1+(1:Int))),p266))) else (some (.inr s78.2))):Option ((Int×Str)⊕((Str))))) ((0:Int),p74)).bind fun (p195:(Str))=>(QaT fuel (fun (s199:Int×Str)=>((if (decide (s199.1<((x_).Rules.length:Int)))=true then (idx (x_).Rules s199.1).bind fun t108=>(QgQ fuel (t108).A).bind fun t118=>(QgQ fuel (t108).B).bind fun t122=>(Qbs fuel ([114,117,108,101]:Str) [(AnyV.str (t108).Name),(AnyV.str (t108).Kind),(AnyV.str t118),(AnyV.str t122),(AnyV.int (t108).N)]).bind fun t128=>(Qay s199.2 t128).bind fun t129=>(some (.inl ((IntKind.i64.wrap (s199.1+(1:Int))),t129))) else (some (.inr s199.2))):Option ((Int×Str)⊕((Str))))) ((0:Int),p195)).bind fun (p214:(Str))=>(Qgh p214).bind fun t131=>(some t131)
instance {fuel:Nat} {x_:Qg}:LeC (QjD fuel x_) (QdF x_):=⟨by unfold QjD QdF;exact leX⟩
def Qke (fuel:Nat) (x_:Qg):Option (Int):=(QbH fuel (x_).Version (0:Int) (1048576:Int)).bind fun t6=>(opt (((((!t6)||(decide (((x_).Kinds.length:Int)>(6:Int))))||(decide (((x_).Lives.length:Int)>(6:Int))))||(decide (((x_).Rules.length:Int)>(16:Int))))==false) (Qik fuel (x_).Kinds (fun x0=>Qjz fuel x0)) default).bind fun t29=>(opt ((((((!t6)||(decide (((x_).Kinds.length:Int)>(6:Int))))||(decide (((x_).Lives.length:Int)>(6:Int))))||(decide (((x_).Rules.length:Int)>(16:Int))))||(!t29))==false) (Qim fuel (x_).Lives (fun x0=>QjA fuel x0)) default).bind fun t35=>(opt (((((((!t6)||(decide (((x_).Kinds.length:Int)>(6:Int))))||(decide (((x_).Lives.length:Int)>(6:Int))))||(decide (((x_).Rules.length:Int)>(16:Int))))||(!t29))||(!t35))==false) (Qio fuel (x_).Rules (fun x0=>QjB fuel x0)) default).bind fun t41=>(if (((((((!t6)||(decide (((x_).Kinds.length:Int)>(6:Int))))||(decide (((x_).Lives.length:Int)>(6:Int))))||(decide (((x_).Rules.length:Int)>(16:Int))))||(!t29))||(!t35))||(!t41))=true then (some (1:Int)) else (QjD fuel x_).bind fun t46=>(if (decide ((t46.length:Int)>(8192:Int)))=true then (some (4:Int)) else (some (0:Int))))
instance {fuel:Nat} {x_:Qg}:LeC (Qke fuel x_) (Qec x_):=⟨by
  unfold Qke Qec
  repeat (first | with_reducible exact Le.rfl | with_reducible exact LeC.le | with_reducible refine QmV (fun _=>?_) | with_reducible refine QmW (fun _=>?_) | with_reducible refine QmX (fun _=>?_) | with_reducible refine Le.bind ?_ (fun _=>?_) | with_reducible refine Le.ite ?_ ?_ | with_reducible refine Le.opt ?_)⟩
def Qd9 (_:Nat) (kind_:Int) (field_:Int) (rule_:Int) (e_:Int) (c0_:(List Qt)):Option ((List Qt)):=((if (e_ !=(0:Int))=true then (rm (c0_.length+[(Qt.mk kind_ field_ rule_ e_)].length)).bind fun _=>(some (c0_++[(Qt.mk kind_ field_ rule_ e_)])) else (some c0_))).bind fun (p4:List Qt)=>(some p4)
instance {fuel:Nat} {kind_:Int} {field_:Int} {rule_:Int} {e_:Int} {c0_:(List Qt)}:LeC (Qd9 fuel kind_ field_ rule_ e_ c0_) (QbM kind_ field_ rule_ e_ c0_):=⟨by unfold Qd9 QbM;exact leX⟩
def Qi5 (_:Nat) (m_:Qn) (c0_:Qn):Option (Bool):=(some ((m_).Name==(c0_).Name))
instance {fuel:Nat} {m_:Qn} {c0_:Qn}:LeC (Qi5 fuel m_ c0_) (Qd3 m_ c0_):=⟨by unfold Qi5 Qd3;exact leX⟩
def Qbq (fuel:Nat) (l_:(List Qy)):Option (Int):=(QaT fuel (fun (s4:Int)=>((if (decide (s4<(l_.length:Int)))=true then (idx l_ s4).bind fun t9=>(if (t9).is=true then (some (.inr (.inr (t9).code))) else (some (.inl (IntKind.i64.wrap (s4+(1:Int)))))) else (some (.inr (.inl ())))):Option ((Int)⊕((Unit)⊕(Int))))) (0:Int)).bind fun (e5:(Unit)⊕(Int))=>(match e5 with | .inl _=>(some (0:Int)) | .inr p25=>(some p25))
instance {fuel:Nat} {l_:(List Qy)}:LeC (Qbq fuel l_) (Qaz l_):=⟨by unfold Qbq Qaz;exact leX⟩
def QjE (_:Nat) (k_:Qj) (c0_:Str):Option (Bool):=(some ((k_).Name==c0_))
instance {fuel:Nat} {k_:Qj} {c0_:Str}:LeC (QjE fuel k_ c0_) (QeD k_ c0_):=⟨by unfold QjE QeD;exact leX⟩
def Qd2 (fuel:Nat) (x_:Qg) (name_:Str):Option (Int):=(QdP fuel (x_).Kinds (fun x0=>QjE fuel x0 name_)).bind fun t8=>(some t8)
instance {fuel:Nat} {x_:Qg} {name_:Str}:LeC (Qd2 fuel x_ name_) (QbW x_ name_):=⟨by
  unfold Qd2 QbW
  repeat (first | with_reducible exact Le.rfl | with_reducible exact LeC.le | with_reducible refine Qhc (fun _=>?_) | with_reducible refine Le.bind ?_ (fun _=>?_))⟩
def QkZ (fuel:Nat) (x_:Qg) (i_:Int):Option (Int):=(idx (x_).Kinds i_).bind fun t9=>(Qd2 fuel x_ (t9).Name).bind fun t14=>(opt ((((t9).Fields.length:Int)==(0:Int))==false) (idx (t9).Fields (0:Int)) default).bind fun t25=>(Qbq fuel [(Qy.mk (decide (t14<i_)) (7:Int)),(Qy.mk ((((t9).Fields.length:Int)==(0:Int))||((t25).Kind !=(0:Int))) (11:Int))]).bind fun t32=>(some t32)
instance {fuel:Nat} {x_:Qg} {i_:Int}:LeC (QkZ fuel x_ i_) (QeM x_ i_):=⟨by unfold QkZ QeM;exact leX⟩
def Qi6 (_:Nat) (f_:Qb) (c0_:Str):Option (Bool):=(some ((f_).Name==c0_))
instance {fuel:Nat} {f_:Qb} {c0_:Str}:LeC (Qi6 fuel f_ c0_) (Qd4 f_ c0_):=⟨by unfold Qi6 Qd4;exact leX⟩
def Qej (fuel:Nat) (k_:Qj) (name_:Str):Option (Int):=(Qdw fuel (k_).Fields (fun x0=>Qi6 fuel x0 name_)).bind fun t8=>(some t8)
instance {fuel:Nat} {k_:Qj} {name_:Str}:LeC (Qej fuel k_ name_) (QbE k_ name_):=⟨by
  unfold Qej QbE
  repeat (first | with_reducible exact Le.rfl | with_reducible exact LeC.le | with_reducible refine QgP (fun _=>?_) | with_reducible refine Le.bind ?_ (fun _=>?_))⟩
def QjF (_:Nat) (s_:Qm) (c0_:Qm):Option (Bool):=(some ((s_).Name==(c0_).Name))
instance {fuel:Nat} {s_:Qm} {c0_:Qm}:LeC (QjF fuel s_ c0_) (QeF s_ c0_):=⟨by unfold QjF QeF;exact leX⟩
def Qgs (_:Nat) (x_:Qg) (kind_:Int) (field_:Int):Option (Qb×Bool):=(opt ((((decide (kind_<(0:Int)))||(decide (kind_≥((x_).Kinds.length:Int))))||(decide (field_<(0:Int))))==false) (idx (x_).Kinds kind_) default).bind fun t26=>(if ((((decide (kind_<(0:Int)))||(decide (kind_≥((x_).Kinds.length:Int))))||(decide (field_<(0:Int))))||(decide (field_≥((t26).Fields.length:Int))))=true then (some (zz0,false)) else (idx (x_).Kinds kind_).bind fun t36=>(idx (t36).Fields field_).bind fun t40=>(some (t40,true)))
instance {fuel:Nat} {x_:Qg} {kind_:Int} {field_:Int}:LeC (Qgs fuel x_ kind_ field_) (QcW x_ kind_ field_):=⟨by unfold Qgs QcW;exact leX⟩
def Qk0 (fuel:Nat) (x_:Qg) (i_:Int):Option (Int):=(idx (x_).Rules i_).bind fun t17=>(sub (x_).Rules (0:Int) i_).bind fun t22=>(Qdb fuel t22 (fun x0=>QjF fuel x0 t17)).bind fun t24=>(Qd2 fuel x_ (t17).Kind).bind fun t28=>(QaT fuel (fun (s9:Int×Bool×Bool)=>((if (decide (s9.1<([(t17).A,(t17).B].length:Int)))=true then ((idx [(t17).A,(t17).B] s9.1).bind fun t39=>(if ((t39==([]:Str))||(decide (t28<(0:Int))))=true then (some (s9.2.1,s9.2.2)) else (idx (x_).Kinds t28).bind fun t53=>(Qej fuel t53 t39).bind fun t56=>(Qgs fuel x_ t28 t56).bind fun t57=>(some ((s9.2.1||(!t57.2)),(s9.2.2||(((t57.1).Kind !=(2:Int))&&((t57.1).Kind !=(4:Int)))))))).bind fun (p55:Bool×Bool)=>(some (.inl ((IntKind.i64.wrap (s9.1+(1:Int))),p55.1,p55.2))) else (some (.inr (s9.2.1,s9.2.2)))):Option ((Int×Bool×Bool)⊕((Bool×Bool))))) ((0:Int),(decide (t28<(0:Int))),false)).bind fun (p49:(Bool×Bool))=>(Qbq fuel [(Qy.mk t24 (7:Int)),(Qy.mk p49.1 (12:Int)),(Qy.mk p49.2 (13:Int)),(Qy.mk ((t17).A==(t17).B) (1:Int))]).bind fun t90=>(some t90)
instance {fuel:Nat} {x_:Qg} {i_:Int}:LeC (Qk0 fuel x_ i_) (QeN x_ i_):=⟨by
  unfold Qk0 QeN
  repeat (first | with_reducible exact Le.rfl | with_reducible exact LeC.le | with_reducible refine Qf3 (fun _=>?_) | with_reducible refine Le.bind ?_ (fun _=>?_) | with_reducible refine Le.ite ?_ ?_ | with_reducible refine Le.loop (fun _=>?_))⟩
def Qgt (fuel:Nat) (s_:QT):Option (Int):=(Qbq fuel [(Qy.mk (decide ((s_).field>(0:Int))) (13:Int))]).bind fun t8=>(some t8)
instance {fuel:Nat} {s_:QT}:LeC (Qgt fuel s_) (Qcd s_):=⟨by unfold Qgt Qcd;exact leX⟩
def Qlw (fuel:Nat) (self:Qg→Int→Int→Option (Int)) (x_:Qg) (kind_:Int) (field_:Int):Option (Int):=(Qgs fuel x_ kind_ field_).bind fun t17=>(if (!t17.2)=true then (some (-1:Int)) else (if (((t17.1).Kind==(7:Int))||((t17.1).Kind==(8:Int)))=true then (idx (x_).Kinds kind_).bind fun t35=>(Qej fuel t35 (t17.1).Up).bind fun t39=>(Qgs fuel x_ kind_ t39).bind fun t44=>(if ((t44.2&&(decide (t39<field_)))&&((t44.1).Kind==(1:Int)))=true then (self x_ kind_ t39).bind fun t61=>(some t61) else (some (-1:Int))) else (if ((t17.1).Kind !=(1:Int))=true then (some (-1:Int)) else (Qd2 fuel x_ (t17.1).Of).bind fun t69=>(if (decide (t69<kind_))=true then (some t69) else (some (-1:Int))))))
theorem Qp9 {fuel:Nat} {self:Qg→Int→Int→Option (Int)} {x_:Qg} {kind_:Int} {field_:Int} {self':Qg→Int→Int→Option (Int)} (hself:∀y0 y1 y2,Le (self y0 y1 y2) (self' y0 y1 y2)):Le (Qlw fuel self x_ kind_ field_) (Qdd self' x_ kind_ field_):=by
  unfold Qlw Qdd
  repeat (first | with_reducible exact Le.rfl | with_reducible exact LeC.le | exact hself _ _ _ | with_reducible refine Le.bind ?_ (fun _=>?_) | with_reducible refine Le.ite ?_ ?_ | apply_assumption)
def Qlx (fuel:Nat):Nat→Qg→Int→Int→Option (Int)
  | 0=>fun _ _ _=>none
  | n+1=>Qlw fuel (Qlx fuel n)
theorem Ql3 {fuel:Nat}:∀(n:Nat) (x_:Qg) (kind_:Int) (field_:Int),Le (Qlx fuel n x_ kind_ field_) (QjL n x_ kind_ field_)
  | 0,_,_,_=>Le.rfl
  | n+1,_,_,_=>Qp9 (Ql3 n)
def Qky (fuel:Nat) (x_:Qg) (kind_:Int) (field_:Int):Option (Int):=Qlx fuel (field_.natAbs+2) x_ kind_ field_
instance {fuel:Nat} {x_:Qg} {kind_:Int} {field_:Int}:LeC (Qky fuel x_ kind_ field_) (Qgi x_ kind_ field_):=⟨Ql3 _ _ _ _⟩
def Qes (fuel:Nat) (s_:QT):Option (Bool):=(Qky fuel (s_).x (s_).kind (s_).field).bind fun t9=>(some (decide (t9<(0:Int))))
instance {fuel:Nat} {s_:QT}:LeC (Qes fuel s_) (QbC s_):=⟨by unfold Qes QbC;exact leX⟩
def Qgu (fuel:Nat) (s_:QT):Option (Int):=(Qes fuel s_).bind fun t4=>(Qbq fuel [(Qy.mk t4 (12:Int))]).bind fun t7=>(some t7)
instance {fuel:Nat} {s_:QT}:LeC (Qgu fuel s_) (Qce s_):=⟨by unfold Qgu Qce;exact leX⟩
def Qgv (fuel:Nat) (s_:QT):Option (Int):=(idx ((s_).x).Kinds (s_).kind).bind fun t11=>(Qej fuel t11 ((s_).f).Of).bind fun t16=>(Qgs fuel (s_).x (s_).kind t16).bind fun t23=>(Qbq fuel [(Qy.mk ((((s_).f).Of !=([]:Str))&&(((decide (t16<(0:Int)))||(decide (t16≥(s_).field)))||((t23.1).Kind !=(4:Int)))) (12:Int))]).bind fun t47=>(some t47)
instance {fuel:Nat} {s_:QT}:LeC (Qgv fuel s_) (Qcf s_):=⟨by unfold Qgv Qcf;exact leX⟩
def QhB (_:Nat) (l_:Qn) (c0_:QT):Option (Bool):=(some ((l_).Name==((c0_).f).Of))
instance {fuel:Nat} {l_:Qn} {c0_:QT}:LeC (QhB fuel l_ c0_) (Qc8 l_ c0_):=⟨by unfold QhB Qc8;exact leX⟩
def Qgw (fuel:Nat) (s_:QT):Option (Int):=(Qb6 fuel ((s_).x).Lives (fun x0=>QhB fuel x0 s_)).bind fun t8=>(Qbq fuel [(Qy.mk (!t8) (12:Int))]).bind fun t13=>(some t13)
instance {fuel:Nat} {s_:QT}:LeC (Qgw fuel s_) (Qcg s_):=⟨by
  unfold Qgw Qcg
  repeat (first | with_reducible exact Le.rfl | with_reducible exact LeC.le | with_reducible refine QdL (fun _=>?_) | with_reducible refine Le.bind ?_ (fun _=>?_))⟩
def QjG (fuel:Nat) (x_:Qg) (kind_:Int) (f_:Qb):Option (Int×(List Int)):=(Qd2 fuel x_ (f_).Of).bind fun t15=>(if (((f_).Kind !=(6:Int))||(decide (t15≤kind_)))=true then (some ((-1:Int),([]:List Int))) else (idx (x_).Kinds t15).bind fun t27=>(QaT fuel (fun (s10:Int×List Int)=>((if (decide (s10.1<((t27).Fields.length:Int)))=true then (idx (t27).Fields s10.1).bind fun t34=>(opt ((((t34).Kind==(7:Int))&&((t34).Of==(f_).Name))==true) (Qky fuel x_ t15 s10.1) default).bind fun t50=>((if ((((t34).Kind==(7:Int))&&((t34).Of==(f_).Name))&&(t50==kind_))=true then (rm (s10.2.length+[s10.1].length)).bind fun _=>(some (s10.2++[s10.1])) else (some s10.2))).bind fun (p45:List Int)=>(some (.inl ((IntKind.i64.wrap (s10.1+(1:Int))),p45))) else (some (.inr s10.2))):Option ((Int×List Int)⊕((List Int))))) ((0:Int),([]:List Int))).bind fun (p35:(List Int))=>(some (t15,p35)))
instance {fuel:Nat} {x_:Qg} {kind_:Int} {f_:Qb}:LeC (QjG fuel x_ kind_ f_) (QdG x_ kind_ f_):=⟨by unfold QjG QdG;exact leX⟩
def Qgx (fuel:Nat) (s_:QT):Option (Int):=(QjG fuel (s_).x (s_).kind (s_).f).bind fun t12=>(Qbq fuel [(Qy.mk (decide (t12.1<(0:Int))) (12:Int)),(Qy.mk ((t12.2.length:Int) !=(1:Int)) (11:Int))]).bind fun t23=>(some t23)
instance {fuel:Nat} {s_:QT}:LeC (Qgx fuel s_) (Qch s_):=⟨by unfold Qgx Qch;exact leX⟩
def Qgy (fuel:Nat) (s_:QT):Option (Qb×Bool):=(Qky fuel (s_).x (s_).kind (s_).field).bind fun t11=>(if (decide (t11<(0:Int)))=true then (some (zz0,false)) else (idx ((s_).x).Kinds t11).bind fun t22=>(Qej fuel t22 ((s_).f).Of).bind fun t27=>(Qgs fuel (s_).x t11 t27).bind fun t28=>(some (t28.1,t28.2)))
instance {fuel:Nat} {s_:QT}:LeC (Qgy fuel s_) (Qci s_):=⟨by unfold Qgy Qci;exact leX⟩
def Qgz (fuel:Nat) (s_:QT):Option (Int):=(Qgy fuel s_).bind fun t7=>(Qes fuel s_).bind fun t11=>(opt (((!t7.2)||((t7.1).Kind !=(6:Int)))==false) (Qd2 fuel (s_).x (t7.1).Of) default).bind fun t25=>(Qbq fuel [(Qy.mk t11 (12:Int)),(Qy.mk (((!t7.2)||((t7.1).Kind !=(6:Int)))||(t25 !=(s_).kind)) (13:Int))]).bind fun t32=>(some t32)
instance {fuel:Nat} {s_:QT}:LeC (Qgz fuel s_) (Qcj s_):=⟨by unfold Qgz Qcj;exact leX⟩
def QgA (fuel:Nat) (s_:QT):Option (Int):=(Qgy fuel s_).bind fun t8=>(Qes fuel s_).bind fun t35=>(Qbq fuel [(Qy.mk t35 (12:Int)),(Qy.mk ((!t8.2)||(!((((((t8.1).Kind==(2:Int))||((t8.1).Kind==(3:Int)))||((t8.1).Kind==(4:Int)))||((t8.1).Kind==(5:Int)))||((t8.1).Kind==(8:Int))))) (13:Int))]).bind fun t45=>(some t45)
instance {fuel:Nat} {s_:QT}:LeC (QgA fuel s_) (Qck s_):=⟨by unfold QgA Qck;exact leX⟩
def QsV (fuel:Nat) (i:Int) (s:QT):Option Int:=if i=0 then Qgt fuel s else if i=1 then Qgu fuel s else if i=4 then Qgv fuel s else if i=5 then Qgw fuel s else if i=6 then Qgx fuel s else if i=7 then Qgz fuel s else if i=8 then QgA fuel s else none
theorem Qvf {fuel:Nat} {i:Int} {s:QT}:Le (QsV fuel i s) (Ql9 (Qcy.mk (Qbx i)).check s):=by
  unfold QsV Qbx
  by_cases h0:i=0
  · rw[if_pos h0,if_pos h0];exact (LeC.le:Le (Qgt fuel s) (Qcd s))
  rw[if_neg h0,if_neg h0]
  by_cases h1:i=1
  · rw[if_pos h1,if_pos h1];exact (LeC.le:Le (Qgu fuel s) (Qce s))
  rw[if_neg h1,if_neg h1]
  by_cases h4:i=4
  · rw[if_pos h4,if_pos h4];exact (LeC.le:Le (Qgv fuel s) (Qcf s))
  rw[if_neg h4,if_neg h4]
  by_cases h5:i=5
  · rw[if_pos h5,if_pos h5];exact (LeC.le:Le (Qgw fuel s) (Qcg s))
  rw[if_neg h5,if_neg h5]
  by_cases h6:i=6
  · rw[if_pos h6,if_pos h6];exact (LeC.le:Le (Qgx fuel s) (Qch s))
  rw[if_neg h6,if_neg h6]
  by_cases h7:i=7
  · rw[if_pos h7,if_pos h7];exact (LeC.le:Le (Qgz fuel s) (Qcj s))
  rw[if_neg h7,if_neg h7]
  by_cases h8:i=8
  · rw[if_pos h8,if_pos h8];exact (LeC.le:Le (QgA fuel s) (Qck s))
  rw[if_neg h8,if_neg h8]
  exact fun _ h=>by cases h
noncomputable def Qkf (fuel:Nat) (x_:Qg):Option ((List Qt)):=(Qke fuel x_).bind fun t18=>(if (t18 !=(0:Int))=true then (some [(Qt.mk (-1:Int) (-1:Int) (-1:Int) t18)]) else (QaT fuel (fun (s12:Int×List Qt)=>((if (decide (s12.1<((x_).Lives.length:Int)))=true then (idx (x_).Lives s12.1).bind fun t31=>(sub (x_).Lives (0:Int) s12.1).bind fun t36=>(Qb6 fuel t36 (fun x0=>Qi5 fuel x0 t31)).bind fun t38=>(Qbq fuel [(Qy.mk t38 (7:Int))]).bind fun t44=>(Qd9 fuel (-1:Int) s12.1 (-1:Int) t44 s12.2).bind fun t45=>(some (.inl ((IntKind.i64.wrap (s12.1+(1:Int))),t45))) else (some (.inr s12.2))):Option ((Int×List Qt)⊕((List Qt))))) ((0:Int),([]:List Qt))).bind fun (p29:(List Qt))=>(QaT fuel (fun (s33:Int×List Qt)=>((if (decide (s33.1<((x_).Kinds.length:Int)))=true then (idx (x_).Kinds s33.1).bind fun t53=>(QkZ fuel x_ s33.1).bind fun t59=>(Qd9 fuel s33.1 (-1:Int) (-1:Int) t59 s33.2).bind fun t60=>(QaT fuel (fun (s182:Int×List Qt)=>((if (decide (s182.1<((t53).Fields.length:Int)))=true then (idx (t53).Fields s182.1).bind fun t67=>(Qej fuel t53 (t67).Name).bind fun t72=>(Qbq fuel [(Qy.mk (decide (t72<s182.1)) (7:Int))]).bind fun t77=>((if ((Qbx (t67).Kind).isSome&&(t77==(0:Int)))=true then (QsV fuel ((t67).Kind) (QT.mk x_ s33.1 s182.1 t67)).bind fun t97=>(some t97) else (some t77))).bind fun (p226:Int)=>(Qd9 fuel s33.1 s182.1 (-1:Int) p226 s182.2).bind fun t102=>(some (.inl ((IntKind.i64.wrap (s182.1+(1:Int))),t102))) else (some (.inr s182.2))):Option ((Int×List Qt)⊕((List Qt))))) ((0:Int),t60)).bind fun (p213:(List Qt))=>(some (.inl ((IntKind.i64.wrap (s33.1+(1:Int))),p213))) else (some (.inr s33.2))):Option ((Int×List Qt)⊕((List Qt))))) ((0:Int),p29)).bind fun (p148:(List Qt))=>(QaT fuel (fun (s152:Int×List Qt)=>((if (decide (s152.1<((x_).Rules.length:Int)))=true then (Qk0 fuel x_ s152.1).bind fun t115=>(Qd9 fuel (-1:Int) (-1:Int) s152.1 t115 s152.2).bind fun t116=>(some (.inl ((IntKind.i64.wrap (s152.1+(1:Int))),t116))) else (some (.inr s152.2))):Option ((Int×List Qt)⊕((List Qt))))) ((0:Int),p148)).bind fun (p165:(List Qt))=>(some p165))
instance {fuel:Nat} {x_:Qg}:LeC (Qkf fuel x_) (Qed x_):=⟨by
  unfold Qkf Qed
  repeat (first | with_reducible exact Le.rfl | with_reducible exact LeC.le | with_reducible refine Qvf | with_reducible refine QdL (fun _=>?_) | with_reducible refine Le.bind ?_ (fun _=>?_) | with_reducible refine Le.ite ?_ ?_ | with_reducible refine Le.loop (fun _=>?_))⟩
noncomputable def Qkg (fuel:Nat) (x_:Qg):Option (Int):=(Qkf fuel x_).bind fun t5=>(if (decide ((t5.length:Int)>(0:Int)))=true then (idx t5 (0:Int)).bind fun t10=>(some (t10).Code) else (some (0:Int)))
instance {fuel:Nat} {x_:Qg}:LeC (Qkg fuel x_) (Qee x_):=⟨by unfold Qkg Qee;exact leX⟩
def QgB (_:Nat) (name_:Str) (a_:Int) (b_:Int) (lo_:Int) (hi_:Int) (c0_:(List Qh)) (c1_:(List Str)):Option ((List Qh)×(List Str)):=(rm (c0_.length+[(Qh.mk a_ b_ lo_ true),(Qh.mk a_ b_ hi_ false)].length)).bind fun _=>(cat (name_.length+([32,108,101,97,115,116]:Str).length)).bind fun _=>(cat (name_.length+([32,109,111,115,116]:Str).length)).bind fun _=>(rm (c1_.length+[(name_++([32,108,101,97,115,116]:Str)),(name_++([32,109,111,115,116]:Str))].length)).bind fun _=>(some ((c0_++[(Qh.mk a_ b_ lo_ true),(Qh.mk a_ b_ hi_ false)]),(c1_++[(name_++([32,108,101,97,115,116]:Str)),(name_++([32,109,111,115,116]:Str))])))
instance {fuel:Nat} {name_:Str} {a_:Int} {b_:Int} {lo_:Int} {hi_:Int} {c0_:(List Qh)} {c1_:(List Str)}:LeC (QgB fuel name_ a_ b_ lo_ hi_ c0_ c1_) (Qcl name_ a_ b_ lo_ hi_ c0_ c1_):=⟨by unfold QgB Qcl;exact leX⟩
noncomputable def QhQ (fuel:Nat) (x_:Qg):Option ((List Qh)×(List Str)×Int):=(Qkg fuel x_).bind fun t14=>(if (t14 !=(0:Int))=true then (some (([]:List Qh),([]:List Str),t14)) else (QaT fuel (fun (s15:Int×List Str×List Qh)=>((if (decide (s15.1<((x_).Kinds.length:Int)))=true then (idx (x_).Kinds s15.1).bind fun t25=>(QgB fuel (t25).Name s15.1 (-1:Int) (t25).Lo (t25).Hi s15.2.2 s15.2.1).bind fun t35=>(QaT fuel (fun (s135:Int×List Qh×List Str)=>((if (decide (s135.1<((t25).Fields.length:Int)))=true then (idx (t25).Fields s135.1).bind fun t41=>((if ((t41).Kind==(1:Int))=true then (cat ((t25).Name.length+([46]:Str).length)).bind fun _=>(cat (((t25).Name++([46]:Str)).length+(t41).Name.length)).bind fun _=>(Qd2 fuel x_ (t41).Of).bind fun t57=>(QgB fuel (((t25).Name++([46]:Str))++(t41).Name) s15.1 t57 (t41).Lo (t41).Hi s135.2.1 s135.2.2).bind fun t62=>(some (t62.1,t62.2)) else (some (s135.2.1,s135.2.2)))).bind fun (p173:List Qh×List Str)=>(some (.inl ((IntKind.i64.wrap (s135.1+(1:Int))),p173.1,p173.2))) else (some (.inr (s135.2.1,s135.2.2)))):Option ((Int×List Qh×List Str)⊕((List Qh×List Str))))) ((0:Int),t35.1,t35.2)).bind fun (p163:(List Qh×List Str))=>(some (.inl ((IntKind.i64.wrap (s15.1+(1:Int))),p163.2,p163.1))) else (some (.inr (s15.2.1,s15.2.2)))):Option ((Int×List Str×List Qh)⊕((List Str×List Qh))))) ((0:Int),([]:List Str),([]:List Qh))).bind fun (p123:(List Str×List Qh))=>(some (p123.2,p123.1,(0:Int))))
instance {fuel:Nat} {x_:Qg}:LeC (QhQ fuel x_) (Qb1 x_):=⟨by unfold QhQ Qb1;exact leX⟩
def Qf4 (fuel:Nat) (s_:(List Int)) (f_:(Int→Option Bool)):Option (Int):=(QaT fuel (fun (s4:Int)=>((if (decide (s4<(s_.length:Int)))=true then (idx s_ s4).bind fun t14=>(f_ t14).bind fun t16=>(if t16=true then (some (.inr (.inr s4))) else (some (.inl (IntKind.i64.wrap (s4+(1:Int)))))) else (some (.inr (.inl ())))):Option ((Int)⊕((Unit)⊕(Int))))) (0:Int)).bind fun (e5:(Unit)⊕(Int))=>(match e5 with | .inl _=>(some (-1:Int)) | .inr p23=>(some p23))
theorem Qk1 {fuel:Nat} {s_:(List Int)} {f_:(Int→Option Bool)} {f_':(Int→Option Bool)} (hf_:∀y0,Le (f_ y0) (f_' y0)):Le (Qf4 fuel s_ f_) (Qb8 s_ f_'):=by
  unfold Qf4 Qb8
  repeat (first | with_reducible exact Le.rfl | with_reducible exact LeC.le | exact hf_ _ | with_reducible refine Le.bind ?_ (fun _=>?_) | with_reducible refine Le.ite ?_ ?_ | with_reducible refine Le.loop (fun _=>?_) | refine Le.sum (fun _=>?_) (fun _=>?_) | exact Le.rfl | (rename_i e;cases e<;>dsimp only) | apply_assumption)
def Qdp (fuel:Nat) (s_:(List Int)) (f_:(Int→Option Bool)):Option (Bool):=(Qf4 fuel s_ f_).bind fun t7=>(some (decide (t7≥(0:Int))))
theorem Qgc {fuel:Nat} {s_:(List Int)} {f_:(Int→Option Bool)} {f_':(Int→Option Bool)} (hf_:∀y0,Le (f_ y0) (f_' y0)):Le (Qdp fuel s_ f_) (Qa1 s_ f_'):=by
  unfold Qdp Qa1
  repeat (first | with_reducible exact Le.rfl | with_reducible exact LeC.le | exact hf_ _ | with_reducible refine Qk1 (fun _=>?_) | with_reducible refine Le.bind ?_ (fun _=>?_) | apply_assumption)
def Qhd (_:Nat) (n_:Int):Option (Bool):=(some ((decide (n_≥(0:Int)))&&(decide (n_≤(65536:Int)))))
instance {fuel:Nat} {n_:Int}:LeC (Qhd fuel n_) (Qd5 n_):=⟨by unfold Qhd Qd5;exact leX⟩
def QjH (fuel:Nat) (n_:Int):Option (Bool):=(Qhd fuel n_).bind fun t4=>(some (!t4))
instance {fuel:Nat} {n_:Int}:LeC (QjH fuel n_) (QdH n_):=⟨by unfold QjH QdH;exact leX⟩
def QhR (_:Nat) (x_:Int):Option (Bool):=(some (x_ !=x_))
instance {fuel:Nat} {x_:Int}:LeC (QhR fuel x_) (QdI x_):=⟨by unfold QhR QdI;exact leX⟩
def Qip (fuel:Nat) (x_:Int) (y_:Int):Option (Int):=(QhR fuel x_).bind fun t8=>(QhR fuel y_).bind fun t10=>(if t8=true then (if t10=true then (some (0:Int)) else (some (-1:Int))) else (if t10=true then (some (1:Int)) else (if (decide (x_<y_))=true then (some (-1:Int)) else (if (decide (x_>y_))=true then (some (1:Int)) else (some (0:Int))))))
instance {fuel:Nat} {x_:Int} {y_:Int}:LeC (Qip fuel x_ y_) (QdJ x_ y_):=⟨by unfold Qip QdJ;exact leX⟩
def Qg2 (fuel:Nat) (s1_:(List Int)) (s2_:(List Int)):Option (Int):=(QaT fuel (fun (s4:Int)=>((if (decide (s4<(s1_.length:Int)))=true then (idx s1_ s4).bind fun t14=>(if (decide (s4≥(s2_.length:Int)))=true then (some (.inr (.inr (1:Int)))) else (idx s2_ s4).bind fun t22=>(Qip fuel t14 t22).bind fun t26=>(if (t26 !=(0:Int))=true then (some (.inr (.inr t26))) else (some (.inl (IntKind.i64.wrap (s4+(1:Int))))))) else (some (.inr (.inl ())))):Option ((Int)⊕((Unit)⊕(Int))))) (0:Int)).bind fun (e5:(Unit)⊕(Int))=>(match e5 with | .inl _=>(if (decide ((s1_.length:Int)<(s2_.length:Int)))=true then (some (-1:Int)) else (some (0:Int))) | .inr p35=>(some p35))
instance {fuel:Nat} {s1_:(List Int)} {s2_:(List Int)}:LeC (Qg2 fuel s1_ s2_) (Qbz s1_ s2_):=⟨by unfold Qg2 Qbz;exact leX⟩
def QdA (_:Nat) (l_:Qh) (counts_:(List Int)):Option (Int):=(if (decide ((l_).B<(0:Int)))=true then (some (l_).Mul) else (idx counts_ (l_).B).bind fun t15=>(some (IntKind.i64.wrap ((l_).Mul * t15))))
instance {fuel:Nat} {l_:Qh} {counts_:(List Int)}:LeC (QdA fuel l_ counts_) (Qa6 l_ counts_):=⟨by unfold QdA Qa6;exact leX⟩
def Qg3 (fuel:Nat) (s_:Qx) (kind_:Int):Option (Int×Int):=(QaT fuel (fun (s5:Int×Int×Int)=>((if (decide (s5.1<((s_).limits.length:Int)))=true then ((idx (s_).limits s5.1).bind fun t18=>(if (((t18).A !=kind_)||(decide ((t18).B≥kind_)))=true then (some (s5.2.1,s5.2.2)) else (QdA fuel t18 ((s_).now).L).bind fun t35=>((if (t18).Least=true then (some ((imax s5.2.1 t35),s5.2.2)) else (some (s5.2.1,(imin s5.2.2 t35))))).bind fun (p80:Int×Int)=>(some (p80.1,p80.2)))).bind fun (p63:Int×Int)=>(some (.inl ((IntKind.i64.wrap (s5.1+(1:Int))),p63.1,p63.2))) else (some (.inr (s5.2.1,s5.2.2)))):Option ((Int×Int×Int)⊕((Int×Int))))) ((0:Int),(0:Int),(65536:Int))).bind fun (p57:(Int×Int))=>(some (p57.1,p57.2))
instance {fuel:Nat} {s_:Qx} {kind_:Int}:LeC (Qg3 fuel s_ kind_) (QbA s_ kind_):=⟨by unfold Qg3 QbA;exact leX⟩
def Qe9 (fuel:Nat) (Y:Qx→Int→Option (Qx)) (s_:Qx) (lo_:Int) (hi_:Int) (kind_:Int):Option (Qx):=(if (decide (lo_>hi_))=true then (some s_) else (idx (s_).leads kind_).bind fun t16=>(if (!t16)=true then (idx (s_).want kind_).bind fun t25=>(Y s_ (imin (imax t25 lo_) hi_)).bind fun t30=>(some t30) else (QaT fuel (fun (s5:Int×Qx)=>((opt (decide (s5.1≤hi_)) (Y s5.2 s5.1) s5.2).bind fun t38=>(if (decide (s5.1≤hi_))=true then (some (.inl (IntKind.i64.wrap (s5.1+(1:Int)),t38))) else (some (.inr t38))))) (lo_,s_))))
theorem Qkh {fuel:Nat} {Y:Qx→Int→Option (Qx)} {s_:Qx} {lo_:Int} {hi_:Int} {kind_:Int} {Y':Qx→Int→Option (Qx)} (hY:∀y0 y1,Le (Y y0 y1) (Y' y0 y1)):Le (Qe9 fuel Y s_ lo_ hi_ kind_) (QbS Y' s_ lo_ hi_ kind_):=by
  unfold Qe9 QbS
  repeat (first | with_reducible exact Le.rfl | with_reducible exact LeC.le | exact hY _ _ | with_reducible refine Le.bind ?_ (fun _=>?_) | with_reducible refine Le.ite ?_ ?_ | with_reducible refine Le.loop (fun _=>?_) | with_reducible refine Le.opt ?_ | apply_assumption)
def Qly (_:Nat) (a_:Int) (b_:Int):Option (Int):=(some (imax (IntKind.i64.wrap (a_ - b_)) (IntKind.i64.wrap (b_ - a_))))
instance {fuel:Nat} {a_:Int} {b_:Int}:LeC (Qly fuel a_ b_) (Qde a_ b_):=⟨by unfold Qly Qde;exact leX⟩
def Qg4 (fuel:Nat) (self:Qx→Int→Int→Option (Qx)) (s_:Qx) (kind_:Int) (cost_:Int):Option (Qx):=(if ((decide ((s_).cost≥(0:Int)))&&(decide (cost_>(s_).cost)))=true then (some s_) else (if (kind_==((s_).want.length:Int))=true then (opt ((((decide ((s_).cost<(0:Int)))||(decide (cost_<(s_).cost)))==false)&&((!QbB (s_).now (s_).best)==true)) (Qg2 fuel ((s_).now).L ((s_).best).L) default).bind fun t59=>((if (((decide ((s_).cost<(0:Int)))||(decide (cost_<(s_).cost)))||((!QbB (s_).now (s_).best)&&(decide (t59<(0:Int)))))=true then (some (Qx.mk (s_).limits (s_).want (s_).leads (s_).now (s_).now cost_)) else (some s_))).bind fun (p9:Qx)=>(some p9) else (Qg3 fuel s_ kind_).bind fun t76=>(Qe9 fuel (fun s15 n16=>(idx ((s15).now).L kind_).bind fun t83=>(idx (s15).want kind_).bind fun t94=>(Qly fuel n16 t94).bind fun t96=>(self (Qx.mk (s15).limits (s15).want (s15).leads (((s15).now).setI kind_ n16) (s15).best (s15).cost) (IntKind.i64.wrap (kind_+(1:Int))) (IntKind.i64.wrap (cost_+t96))).bind fun t98=>(some t98)) s_ (t76).1 (t76).2 kind_).bind fun t14=>(idx ((t14).now).L kind_).bind fun t103=>(some (Qx.mk (t14).limits (t14).want (t14).leads (((t14).now).setI kind_ (0:Int)) (t14).best (t14).cost))))
theorem Qlz {fuel:Nat} {self:Qx→Int→Int→Option (Qx)} {s_:Qx} {kind_:Int} {cost_:Int} {self':Qx→Int→Int→Option (Qx)} (hself:∀y0 y1 y2,Le (self y0 y1 y2) (self' y0 y1 y2)):Le (Qg4 fuel self s_ kind_ cost_) (Qb3 self' s_ kind_ cost_):=by
  unfold Qg4 Qb3
  repeat (first | with_reducible exact Le.rfl | with_reducible exact LeC.le | exact hself _ _ _ | with_reducible refine Qkh (fun _ _=>?_) | with_reducible refine Le.bind ?_ (fun _=>?_) | with_reducible refine Le.ite ?_ ?_ | with_reducible refine Le.opt ?_ | apply_assumption)
def Qg5 (fuel:Nat):Nat→Qx→Int→Int→Option (Qx)
  | 0=>fun _ _ _=>none
  | n+1=>Qg4 fuel (Qg5 fuel n)
theorem Qh8 {fuel:Nat}:∀(n:Nat) (s_:Qx) (kind_:Int) (cost_:Int),Le (Qg5 fuel n s_ kind_ cost_) (Qbl n s_ kind_ cost_)
  | 0,_,_,_=>Le.rfl
  | n+1,_,_,_=>Qlz (Qh8 n)
def Qj8 (fuel:Nat) (s_:Qx) (kind_:Int) (cost_:Int):Option (Qx):=Qg5 fuel ((s_).want.length+2) s_ kind_ cost_
instance {fuel:Nat} {s_:Qx} {kind_:Int} {cost_:Int}:LeC (Qj8 fuel s_ kind_ cost_) (Qfs s_ kind_ cost_):=⟨Qh8 _ _ _ _⟩
def QhV (_:Nat) (s_:(List Int)):Option ((List Int)):=(rm (([]:List Int).length+s_.length)).bind fun _=>(some (([]:List Int)++s_))
instance {fuel:Nat} {s_:(List Int)}:LeC (QhV fuel s_) (Qds s_):=⟨by unfold QhV Qds;exact leX⟩
noncomputable def QeW (fuel:Nat) (x_:Qg) (want_:(List Int)):Option ((List Int)×Int):=(QhQ fuel x_).bind fun t17=>(if (t17.2.2 !=(0:Int))=true then (some (([]:List Int),t17.2.2)) else (opt (((want_.length:Int) !=((x_).Kinds.length:Int))==false) (Qdp fuel want_ (fun x0=>QjH fuel x0)) default).bind fun t32=>(if (((want_.length:Int) !=((x_).Kinds.length:Int))||t32)=true then (some (([]:List Int),(1:Int))) else (mk (want_.length:Int) false).bind fun t38=>(QaT fuel (fun (s14:Int×List Bool)=>((if (decide (s14.1<(t17.1.length:Int)))=true then (idx t17.1 s14.1).bind fun t45=>((if (decide ((t45).B≥(0:Int)))=true then (setAt s14.2 (t45).B true).bind fun t56s=>(some t56s) else (some s14.2))).bind fun (p92:List Bool)=>(some (.inl ((IntKind.i64.wrap (s14.1+(1:Int))),p92))) else (some (.inr s14.2))):Option ((Int×List Bool)⊕((List Bool))))) ((0:Int),t38)).bind fun (p36:(List Bool))=>(QaT fuel (fun (s40:Int×Int)=>((if (decide (s40.1<((x_).Kinds.length:Int)))=true then (idx (x_).Kinds s40.1).bind fun t64=>(idx p36 s40.1).bind fun t71=>((if (t71&&(decide (s40.2≤(131072:Int))))=true then (some (IntKind.i64.wrap (s40.2 * (IntKind.i64.wrap ((IntKind.i64.wrap ((t64).Hi - (t64).Lo))+(1:Int)))))) else (some s40.2))).bind fun (p81:Int)=>(some (.inl ((IntKind.i64.wrap (s40.1+(1:Int))),p81))) else (some (.inr s40.2))):Option ((Int×Int)⊕((Int))))) ((0:Int),(1:Int))).bind fun (p62:(Int))=>(if (decide (p62>(131072:Int)))=true then (some (([]:List Int),(4:Int))) else (Qj8 fuel (Qx.mk t17.1 want_ p36 zz6 zz6 (-1:Int)) (0:Int) (0:Int)).bind fun t89=>(if (decide ((t89).cost<(0:Int)))=true then (some (([]:List Int),(14:Int))) else (sub ((t89).best).L (0:Int) (want_.length:Int)).bind fun t100=>(QhV fuel t100).bind fun t101=>(some (t101,(0:Int)))))))
instance {fuel:Nat} {x_:Qg} {want_:(List Int)}:LeC (QeW fuel x_ want_) (Qa9 x_ want_):=⟨by
  unfold QeW Qa9
  repeat (first | with_reducible exact Le.rfl | with_reducible exact LeC.le | with_reducible refine Qgc (fun _=>?_) | with_reducible refine Le.bind ?_ (fun _=>?_) | with_reducible refine Le.ite ?_ ?_ | with_reducible refine Le.loop (fun _=>?_) | with_reducible refine Le.opt ?_)⟩
def QfA (fuel:Nat) (a_:(List Int)) (b_:(List Int)):Option (Bool):=(if ((a_.length:Int) !=(b_.length:Int))=true then (some false) else (QaT fuel (fun (s7:Int)=>((if (decide (s7<(a_.length:Int)))=true then (idx a_ s7).bind fun t19=>(idx b_ s7).bind fun t23=>(if (t19 !=t23)=true then (some (.inr (.inr false))) else (some (.inl (IntKind.i64.wrap (s7+(1:Int)))))) else (some (.inr (.inl ())))):Option ((Int)⊕((Unit)⊕(Bool))))) (0:Int)).bind fun (e8:(Unit)⊕(Bool))=>(match e8 with | .inl _=>(some true) | .inr p24=>(some p24)))
instance {fuel:Nat} {a_:(List Int)} {b_:(List Int)}:LeC (QfA fuel a_ b_) (QbP a_ b_):=⟨by unfold QfA QbP;exact leX⟩
def QeH (_:Nat) (least_:Int):Option (Qg):=(some (Qg.mk (0:Int) [(Qj.mk ([97]:Str) (1:Int) (2:Int) [(Qb.mk ([105,100]:Str) ([]:Str) ([]:Str) (0:Int) (0:Int) (0:Int) ([]:(List Str)) ([]:(List Int)))]),(Qj.mk ([98]:Str) least_ (9:Int) [(Qb.mk ([105,100]:Str) ([]:Str) ([]:Str) (0:Int) (0:Int) (0:Int) ([]:(List Str)) ([]:(List Int))),(Qb.mk ([111,102]:Str) ([97]:Str) ([]:Str) (1:Int) (0:Int) (4:Int) ([]:(List Str)) ([]:(List Int)))])] ([]:(List Qn)) ([]:(List Qm))))
instance {fuel:Nat} {least_:Int}:LeC (QeH fuel least_) (QbG least_):=⟨by unfold QeH QbG;exact leX⟩
def Qe6 (_:Nat) (l_:Qh) (n_:Int):Option (Bool):=(some ((((((decide ((l_).A≥(0:Int)))&&(decide ((l_).A<n_)))&&(decide ((l_).B≥(-1:Int))))&&(decide ((l_).B<n_)))&&(decide ((l_).Mul≥(0:Int))))&&(decide ((l_).Mul≤(65536:Int)))))
instance {fuel:Nat} {l_:Qh} {n_:Int}:LeC (Qe6 fuel l_ n_) (QcL l_ n_):=⟨by unfold Qe6 QcL;exact leX⟩
def Qi7 (fuel:Nat) (x_:Qh) (c0_:Int):Option (Bool):=(Qe6 fuel x_ c0_).bind fun t6=>(some (!t6))
instance {fuel:Nat} {x_:Qh} {c0_:Int}:LeC (Qi7 fuel x_ c0_) (Qft x_ c0_):=⟨by unfold Qi7 Qft;exact leX⟩
def Qfa (fuel:Nat) (s_:(List Qh)) (f_:(Qh→Option Bool)):Option (Int):=(QaT fuel (fun (s4:Int)=>((if (decide (s4<(s_.length:Int)))=true then (idx s_ s4).bind fun t14=>(f_ t14).bind fun t16=>(if t16=true then (some (.inr (.inr s4))) else (some (.inl (IntKind.i64.wrap (s4+(1:Int)))))) else (some (.inr (.inl ())))):Option ((Int)⊕((Unit)⊕(Int))))) (0:Int)).bind fun (e5:(Unit)⊕(Int))=>(match e5 with | .inl _=>(some (-1:Int)) | .inr p23=>(some p23))
theorem Qki {fuel:Nat} {s_:(List Qh)} {f_:(Qh→Option Bool)} {f_':(Qh→Option Bool)} (hf_:∀y0,Le (f_ y0) (f_' y0)):Le (Qfa fuel s_ f_) (Qcw s_ f_'):=by
  unfold Qfa Qcw
  repeat (first | with_reducible exact Le.rfl | with_reducible exact LeC.le | exact hf_ _ | with_reducible refine Le.bind ?_ (fun _=>?_) | with_reducible refine Le.ite ?_ ?_ | with_reducible refine Le.loop (fun _=>?_) | refine Le.sum (fun _=>?_) (fun _=>?_) | exact Le.rfl | (rename_i e;cases e<;>dsimp only) | apply_assumption)
def QcY (fuel:Nat) (s_:(List Qh)) (f_:(Qh→Option Bool)):Option (Bool):=(Qfa fuel s_ f_).bind fun t7=>(some (decide (t7≥(0:Int))))
theorem QfH {fuel:Nat} {s_:(List Qh)} {f_:(Qh→Option Bool)} {f_':(Qh→Option Bool)} (hf_:∀y0,Le (f_ y0) (f_' y0)):Le (QcY fuel s_ f_) (Qbp s_ f_'):=by
  unfold QcY Qbp
  repeat (first | with_reducible exact Le.rfl | with_reducible exact LeC.le | exact hf_ _ | with_reducible refine Qki (fun _=>?_) | with_reducible refine Le.bind ?_ (fun _=>?_) | apply_assumption)
def Qiq (_:Nat) (l_:Qh) (at_:Qs):Option (Int×Int):=(if ((decide ((l_).B<(0:Int)))&&(l_).Least)=true then (some ((l_).A,(l_).Mul)) else (if (l_).Least=true then (idx (at_).L (l_).B).bind fun t27=>(some ((l_).A,(IntKind.i64.wrap ((l_).Mul * t27)))) else (if ((decide ((l_).B≥(0:Int)))&&(decide ((l_).Mul>(0:Int))))=true then (idx (at_).L (l_).A).bind fun t43=>(nz (l_).Mul).bind fun _=>(some ((l_).B,(IntKind.i64.wrap (Int.tdiv (IntKind.i64.wrap ((IntKind.i64.wrap (t43+(l_).Mul)) - (1:Int))) (l_).Mul)))) else (some ((l_).A,(0:Int))))))
instance {fuel:Nat} {l_:Qh} {at_:Qs}:LeC (Qiq fuel l_ at_) (QeQ l_ at_):=⟨by unfold Qiq QeQ;exact leX⟩
def Qe7 (fuel:Nat) (l_:Qh) (counts_:(List Int)):Option (Bool):=(if (l_).Least=true then (idx counts_ (l_).A).bind fun t10=>(QdA fuel l_ counts_).bind fun t14=>(some (decide (t10≥t14))) else (idx counts_ (l_).A).bind fun t19=>(QdA fuel l_ counts_).bind fun t23=>(some (decide (t19≤t23))))
instance {fuel:Nat} {l_:Qh} {counts_:(List Int)}:LeC (Qe7 fuel l_ counts_) (QcM l_ counts_):=⟨by unfold Qe7 QcM;exact leX⟩
def QfG (fuel:Nat) (at_:Qs) (l_:Qh):Option (Bool):=(Qe7 fuel l_ (at_).L).bind fun t7=>(some (!t7))
instance {fuel:Nat} {at_:Qs} {l_:Qh}:LeC (QfG fuel at_ l_) (QcS at_ l_):=⟨by unfold QfG QcS;exact leX⟩
def QhC (fuel:Nat) (l_:(List Qh)):Option (Bool):=(QaT fuel (fun (s6:Bool×Qs)=>((if s6.1=true then (QaT fuel (fun (s126:Int×Bool×Qs)=>((if (decide (s126.1<(l_.length:Int)))=true then (idx l_ s126.1).bind fun t14=>(Qiq fuel t14 s126.2.2).bind fun t19=>(if (decide (t19.2>(65536:Int)))=true then (some (.inr (.inr false))) else (idx (s126.2.2).L t19.1).bind fun t26=>((if (decide (t19.2>t26))=true then (idx (s126.2.2).L t19.1).bind fun t31=>(some (true,((s126.2.2).setI t19.1 t19.2))) else (some (s126.2.1,s126.2.2)))).bind fun (p171:Bool×Qs)=>(some (.inl ((IntKind.i64.wrap (s126.1+(1:Int))),p171.1,p171.2)))) else (some (.inr (.inl (s126.2.1,s126.2.2))))):Option ((Int×Bool×Qs)⊕((Bool×Qs)⊕(Bool))))) ((0:Int),false,s6.2)).bind fun (e127:(Bool×Qs)⊕(Bool))=>(match e127 with | .inl p158=>(some (.inl (p158.1,p158.2))) | .inr p159=>(some (.inr (.inr p159)))) else (some (.inr (.inl s6.2)))):Option ((Bool×Qs)⊕((Qs)⊕(Bool))))) (true,zz6)).bind fun (e7:(Qs)⊕(Bool))=>(match e7 with | .inl p118=>(QcY fuel l_ (fun x0=>QfG fuel p118 x0)).bind fun t36=>(some (!t36)) | .inr p119=>(some p119))
instance {fuel:Nat} {l_:(List Qh)}:LeC (QhC fuel l_) (QeR l_):=⟨by
  unfold QhC QeR
  repeat (first | with_reducible exact Le.rfl | with_reducible exact LeC.le | with_reducible refine QfH (fun _=>?_) | with_reducible refine Le.bind ?_ (fun _=>?_) | with_reducible refine Le.ite ?_ ?_ | with_reducible refine Le.loop (fun _=>?_) | refine Le.sum (fun _=>?_) (fun _=>?_) | exact Le.rfl | (rename_i e;cases e<;>dsimp only))⟩
def Qf5 (_:Nat) (x_:Int):Option (Int):=(if (x_==(0:Int))=true then (some (64:Int)) else (idx QoU (ishr .u64 (IntKind.u64.wrap ((iand .u64 x_ (IntKind.u64.wrap (0 - x_))) * (285870213051353865:Int))) (58:Int))).bind fun t11=>(some (IntKind.i64.wrap t11)))
instance {fuel:Nat} {x_:Int}:LeC (Qf5 fuel x_) (Qc9 x_):=⟨by unfold Qf5 Qc9;exact leX⟩
def Qe8 (fuel:Nat) (x_:Int):Option (Int):=(Qf5 fuel x_).bind fun t7=>(some t7)
instance {fuel:Nat} {x_:Int}:LeC (Qe8 fuel x_) (QcN x_):=⟨by unfold Qe8 QcN;exact leX⟩
def Qi8 (fuel:Nat) (l_:(List Qh)) (set_:Int):Option ((List Qh)):=(QaT fuel (fun (s6:Int×List Qh)=>((if (s6.1 !=(0:Int))=true then (Qe8 fuel s6.1).bind fun t17=>(idx l_ t17).bind fun t18=>(rm (s6.2.length+[t18].length)).bind fun _=>(some (.inl ((iand .u64 s6.1 (IntKind.u64.wrap (s6.1 - (1:Int)))),(s6.2++[t18])))) else (some (.inr s6.2))):Option ((Int×List Qh)⊕((List Qh))))) (set_,([]:List Qh))).bind fun (p17:(List Qh))=>(some p17)
instance {fuel:Nat} {l_:(List Qh)} {set_:Int}:LeC (Qi8 fuel l_ set_) (QfZ l_ set_):=⟨by unfold Qi8 QfZ;exact leX⟩
def QhW (fuel:Nat) (self:(List Qh)→Int→Int→Int→Option (Int)) (l_:(List Qh)) (set_:Int) (from_:Int) (many_:Int):Option (Int):=(nn (IntKind.i64.wrap ((64:Int) - (l_.length:Int)))).bind fun _=>(nn from_).bind fun _=>(nn from_).bind fun _=>(Qi8 fuel l_ (ior .u64 set_ (ishl .u64 (ishr .u64 (ishr .u64 (18446744073709551615:Int) (IntKind.i64.wrap ((64:Int) - (l_.length:Int)))) from_) from_))).bind fun t24=>(QhC fuel t24).bind fun t25=>(if t25=true then (some (0:Int)) else (if (many_==(0:Int))=true then (Qi8 fuel l_ set_).bind fun t30=>(QhC fuel t30).bind fun t31=>(if t31=true then (some (0:Int)) else (some set_)) else (QaT fuel (fun (s15:Int)=>((if (decide ((IntKind.i64.wrap (s15+many_))≤(l_.length:Int)))=true then (nn s15).bind fun _=>(self l_ (ior .u64 set_ (ishl .u64 (1:Int) s15)) (IntKind.i64.wrap (s15+(1:Int))) (IntKind.i64.wrap (many_ - (1:Int)))).bind fun t51=>(if (t51 !=(0:Int))=true then (some (.inr (.inr t51))) else (some (.inl (IntKind.i64.wrap (s15+(1:Int)))))) else (some (.inr (.inl ())))):Option ((Int)⊕((Unit)⊕(Int))))) from_).bind fun (e16:(Unit)⊕(Int))=>(match e16 with | .inl _=>(some (0:Int)) | .inr p34=>(some p34))))
theorem QmG {fuel:Nat} {self:(List Qh)→Int→Int→Int→Option (Int)} {l_:(List Qh)} {set_:Int} {from_:Int} {many_:Int} {self':(List Qh)→Int→Int→Int→Option (Int)} (hself:∀y0 y1 y2 y3,Le (self y0 y1 y2 y3) (self' y0 y1 y2 y3)):Le (QhW fuel self l_ set_ from_ many_) (Qeq self' l_ set_ from_ many_):=by
  unfold QhW Qeq
  repeat (first | with_reducible exact Le.rfl | with_reducible exact LeC.le | exact hself _ _ _ _ | with_reducible refine Le.bind ?_ (fun _=>?_) | with_reducible refine Le.ite ?_ ?_ | with_reducible refine Le.loop (fun _=>?_) | refine Le.sum (fun _=>?_) (fun _=>?_) | exact Le.rfl | (rename_i e;cases e<;>dsimp only) | apply_assumption)
def QhX (fuel:Nat):Nat→(List Qh)→Int→Int→Int→Option (Int)
  | 0=>fun _ _ _ _=>none
  | n+1=>QhW fuel (QhX fuel n)
theorem Qi9 {fuel:Nat}:∀(n:Nat) (l_:(List Qh)) (set_:Int) (from_:Int) (many_:Int),Le (QhX fuel n l_ set_ from_ many_) (QfN n l_ set_ from_ many_)
  | 0,_,_,_,_=>Le.rfl
  | n+1,_,_,_,_=>QmG (Qi9 n)
def Qk2 (fuel:Nat) (l_:(List Qh)) (set_:Int) (from_:Int) (many_:Int):Option (Int):=QhX fuel (many_.natAbs+2) l_ set_ from_ many_
instance {fuel:Nat} {l_:(List Qh)} {set_:Int} {from_:Int} {many_:Int}:LeC (Qk2 fuel l_ set_ from_ many_) (Qih l_ set_ from_ many_):=⟨Qi9 _ _ _ _ _⟩
def Qkj (fuel:Nat) (n_:Int) (l_:(List Qh)):Option ((List Int)×Int):=(opt (((decide (n_<(1:Int)))||(decide (n_>(6:Int))))==false) (QcY fuel l_ (fun x0=>Qi7 fuel x0 n_)) default).bind fun t19=>(if (((decide (n_<(1:Int)))||(decide (n_>(6:Int))))||t19)=true then (some (([]:List Int),(1:Int))) else (if (decide ((l_.length:Int)>(24:Int)))=true then (some (([]:List Int),(4:Int))) else (QhC fuel l_).bind fun t27=>(if t27=true then (some (([]:List Int),(6:Int))) else (QaT fuel (fun (s12:Int×Int)=>((if (s12.2==(0:Int))=true then (Qk2 fuel l_ (0:Int) (0:Int) s12.1).bind fun t34=>(some (.inl ((IntKind.i64.wrap (s12.1+(1:Int))),t34))) else (some (.inr s12.2))):Option ((Int×Int)⊕((Int))))) ((1:Int),(0:Int))).bind fun (p22:(Int))=>(QaT fuel (fun (s26:Int×List Int)=>((if (s26.1 !=(0:Int))=true then (Qe8 fuel s26.1).bind fun t43=>(rm (s26.2.length+[t43].length)).bind fun _=>(some (.inl ((iand .u64 s26.1 (IntKind.u64.wrap (s26.1 - (1:Int)))),(s26.2++[t43])))) else (some (.inr s26.2))):Option ((Int×List Int)⊕((List Int))))) (p22,([]:List Int))).bind fun (p37:(List Int))=>(some (p37,(0:Int))))))
instance {fuel:Nat} {n_:Int} {l_:(List Qh)}:LeC (Qkj fuel n_ l_) (QgN n_ l_):=⟨by
  unfold Qkj QgN
  repeat (first | with_reducible exact Le.rfl | with_reducible exact LeC.le | with_reducible refine QfH (fun _=>?_) | with_reducible refine Le.bind ?_ (fun _=>?_) | with_reducible refine Le.ite ?_ ?_ | with_reducible refine Le.loop (fun _=>?_) | with_reducible refine Le.opt ?_)⟩
def Qja (fuel:Nat) (n_:Int):Option (Bool):=(Qhd fuel n_).bind fun t4=>(some (!t4))
instance {fuel:Nat} {n_:Int}:LeC (Qja fuel n_) (Qfu n_):=⟨by unfold Qja Qfu;exact leX⟩
def Qie (fuel:Nat) (l_:Qh) (counts_:(List Int)):Option (Bool):=(Qe6 fuel l_ (counts_.length:Int)).bind fun t8=>(opt (t8==true) (Qdp fuel counts_ (fun x0=>Qja fuel x0)) default).bind fun t11=>(opt ((t8&&(!t11))==true) (Qe7 fuel l_ counts_) default).bind fun t17=>(some ((t8&&(!t11))&&t17))
instance {fuel:Nat} {l_:Qh} {counts_:(List Int)}:LeC (Qie fuel l_ counts_) (Qfm l_ counts_):=⟨by
  unfold Qie Qfm
  repeat (first | with_reducible exact Le.rfl | with_reducible exact LeC.le | with_reducible refine Qgc (fun _=>?_) | with_reducible refine Le.bind ?_ (fun _=>?_) | with_reducible refine Le.opt ?_)⟩
noncomputable def Qjb (fuel:Nat):Option (Bool):=(QeH fuel (3:Int)).bind fun t13=>(QeW fuel t13 [(2:Int),(9:Int)]).bind fun t15=>(QeH fuel (3:Int)).bind fun t19=>(QeW fuel t19 [(1:Int),(9:Int)]).bind fun t21=>(QeH fuel (9:Int)).bind fun t25=>(QeW fuel t25 [(2:Int),(9:Int)]).bind fun t27=>(QeH fuel (9:Int)).bind fun t31=>(QhQ fuel t31).bind fun t32=>(if ((((((t15.2 !=(0:Int))||(t21.2 !=(0:Int)))||(t27.2 !=(14:Int)))||(t32.2.2 !=(0:Int)))||((t32.1.length:Int) !=(6:Int)))||((t32.2.1.length:Int) !=(6:Int)))=true then (some false) else (Qkj fuel (2:Int) t32.1).bind fun t62=>(opt ((t62.2 !=(0:Int))==false) (QfA fuel t62.1 [(1:Int),(2:Int),(5:Int)]) default).bind fun t70=>(opt (((t62.2 !=(0:Int))||(!t70))==false) (idx t32.2.1 (1:Int)) default).bind fun t75=>(opt ((((t62.2 !=(0:Int))||(!t70))||(t75 !=([97,32,109,111,115,116]:Str)))==false) (idx t32.2.1 (2:Int)) default).bind fun t81=>(opt (((((t62.2 !=(0:Int))||(!t70))||(t75 !=([97,32,109,111,115,116]:Str)))||(t81 !=([98,32,108,101,97,115,116]:Str)))==false) (idx t32.2.1 (5:Int)) default).bind fun t87=>(if (((((t62.2 !=(0:Int))||(!t70))||(t75 !=([97,32,109,111,115,116]:Str)))||(t81 !=([98,32,108,101,97,115,116]:Str)))||(t87 !=([98,46,111,102,32,109,111,115,116]:Str)))=true then (some false) else (QfA fuel t15.1 [(2:Int),(8:Int)]).bind fun t93=>(opt (t93==true) (QfA fuel t21.1 [(2:Int),(8:Int)]) default).bind fun t97=>(opt ((t93&&t97)==true) (idx t32.1 (5:Int)) default).bind fun t101=>(opt ((t93&&t97)==true) (Qie fuel t101 [(2:Int),(9:Int)]) default).bind fun t104=>(opt (((t93&&t97)&&(!t104))==true) (idx t32.1 (5:Int)) default).bind fun t109=>(opt (((t93&&t97)&&(!t104))==true) (Qie fuel t109 [(2:Int),(8:Int)]) default).bind fun t112=>(some (((t93&&t97)&&(!t104))&&t112))))
instance {fuel:Nat}:LeC (Qjb fuel) (QeS):=⟨by unfold Qjb QeS;exact leX⟩

theorem QsW:QeS=some true:=LeC.le (x:=Qjb 64) _ (by kernel_rfl:Qjb 64=some true)

end Go.Proofs.YtcdccjagknlmpaaGreatDoor

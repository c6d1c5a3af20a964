/- Go functions as Lean functions, and the proofs that they compute them, written by a program. No condition. -/
import Derived.Test.YtcdccjagknlmpaaGreatDoorGenE
namespace Go.Proofs.YtcdccjagknlmpaaGreatDoor
open Go.Sim
set_option maxRecDepth 100000
set_option maxHeartbeats 4000000

/- counts.values, by hand. -/
theorem QjI {q : Value} {s_ : Qp} {kind_ : Int} {r : Int × Int} (h : Qbh s_ kind_ = some r) :
  FnOk Tryz.prog 84 [tv q,ti kind_] [box (QD.cs s_) q] (fun _ => [box (QD.cs s_) q]) (fun _ => QdN 121 [tptr (rI.cs r.1),tptr (rI.cs r.2),tptr (rVal.cs q),tptr (rI.cs kind_)]) := by
 refine fe Tryz.func84 Tryz.ntmps84 fun M0 M w0 a hpl H => ?_
 replace H : St M w0 14 [(0,tv q),(1,ti kind_)] [box (QD.cs s_) q] a w0 := H
 refine wp_seq_k (fun K1 k1 => ?_)
 refine wr mx [] H (fun _ => .u [0] rfl rfl (QqY z0)<|.o (QT (R := rI) (u := kind_) z2)<|.o (Qa .k)<|.n) fun _ a w H => ?_
 have H := H.to [0,1] [_,_] [_] rfl rfl
 refine k1 _ _ ?_
 clear k1 K1
 refine wp_seq_k (fun K2 k2 => ?_)
 refine Qev mixed [v1 6 (fun v0 => box (rI.cs (0:Int)) v0),v1 7 (fun v0 => box (rI.cs (0:Int)) v0),v1 6 (fun v0 => box (splice (rI.cs (0:Int)) 0 (rI.cs r.1)) v0),v1 7 (fun v0 => box (splice (rI.cs (0:Int)) 0 (rI.cs r.2)) v0)] H (fun n1 => .p rfl (Qbp QbJ z0)<|.o (Qr (R := rI) (u := kind_) tok3 z2)<|.u [0] rfl rfl (Qg8 [box (QD.cs s_) q] Qu9 (Qkh h) (.cons (.boxR z1 (.head _))<|.cons (.of z0)<|.nil) (fun _ => QtC (by intro T h; simp at h; rcases h with h | h <;> subst h <;> exact Qg7)) (fun _ => Qlp (x := undef)))<|.q 0 rfl<|.o (QM z0 rfl)<|.o (QM z1 rfl)<|.m (f := fun p => tv p) [] [1] rfl rfl rfl (Q1 (R := rI) (a := (0:Int)) tok3 zok3)<|.m (f := fun p => tv p) [] [2] rfl rfl rfl (Q1 (R := rI) (a := (0:Int)) tok3 zok3)<|.e [] [1] [3] rfl rfl rfl rfl (QR (R := rI) (a := r.1) tok3 z1 z3 (leb rfl))<|.e [] [2] [4] rfl rfl rfl rfl (QR (R := rI) (a := r.2) tok3 z0 z2 (leb rfl))<|.nil _ _) (by kernel_rfl) (fun n1 a w H => ?_)
 have H := H.to [6,7,8,9] [_,_,_,_] [_,_,_] rfl rfl
 refine k2 _ _ ?_
 clear k2 K2
 replace H : St _ _ _ [_,_,_,_] [_,_] _ _ := (((H.selA [1,0,2] rfl).shareB 0 rfl).add 0 rfl (fun _ _ _ h => h.2)).pick [0,3,4,5]
 replace H : St _ _ _ [_,_,_,_] [_] _ _ := (((H.selA [1,0] rfl).shareB 1 rfl).add 0 rfl (fun _ _ _ h => h.2)).pick [2,0,4,5]
 refine wp_seq_k (fun _ k3 => ?_)
 refine wr mx [] H (fun _ => .o (QdK (.cons z0<|.cons z1<|.cons z2<|.cons z3<|.nil))<|.o (Qa z0)<|.n) fun _ a w H => ?_
 have H := H.to [1] [_] [_] rfl rfl
 refine k3 _ _ ?_
 refine wp_ret ?_
 exact rt undef [0] hpl H (.tmp z0 .nil)

/- diorama/counts.far -/
noncomputable def QcG (a_ : Int) (b_ : Int) : Option (Int) := (some (imax (IntKind.i64.wrap (a_ - b_)) (IntKind.i64.wrap (b_ - a_))))
theorem Qph {a_ : Int} {b_ : Int} {r : Int} (h : QcG a_ b_ = some r) : FnOk Tryz.prog 85 [ti a_,ti b_] [] (fun _ => []) (fun _ => ti r) := by
 unfold QcG at h
 refine fe Tryz.func85 Tryz.ntmps85 fun M0 M w0 a hpl H => ?_
 replace H : St M w0 12 [(0,ti a_),(1,ti b_)] [] a w0 := H
 refine sr mx [] H (fun _ => .o (Qa .k)<|.n) fun _ a w H => ?_
 have H := H.to [1,2] [_,_] [] rfl rfl
 refine sr mx [] H (fun _ => .q 0 rfl<|.q 2 rfl<|.o (Qdc z1 z0)<|.q 4 rfl<|.q 4 rfl<|.o (Qdc z1 z0)<|.o (QpG z3 z0)<|.o (Qa z0)<|.n) fun _ a w H => ?_
 have H := H.to [7] [_] [] rfl rfl
 refine wp_ret ?_
 obtain rfl := sj h
 exact rt undef [] hpl H (.tmp z0 .nil)

/- (*diorama/counts.search).try -/
noncomputable def QbC (self : Qp → Int → Int → Option (Qp)) (s_ : Qp) (kind_ : Int) (cost_ : Int) : Option (Qp) := (if ((decide ((s_).cost ≥ (0:Int))) && (decide (cost_ > (s_).cost))) = true then (some s_) else (if (kind_ == ((s_).want.length : Int)) = true then (opt ((((decide ((s_).cost < (0:Int))) || (decide (cost_ < (s_).cost))) == false) && ((!Qbj (s_).now (s_).best) == true)) (Qbg ((s_).now).L ((s_).best).L) default).bind fun t59 => ((if (((decide ((s_).cost < (0:Int))) || (decide (cost_ < (s_).cost))) || ((!Qbj (s_).now (s_).best) && (decide (t59 < (0:Int))))) = true then (some (Qp.mk (s_).limits (s_).want (s_).leads (s_).now (s_).now cost_)) else (some s_))).bind fun (p9 : Qp) => (some p9) else (Qbh s_ kind_).bind fun t76 => (Qbu (fun s15 n16 => (idx ((s15).now).L kind_).bind fun t83 => (idx (s15).want kind_).bind fun t94 => (QcG n16 t94).bind fun t96 => (self (Qp.mk (s15).limits (s15).want (s15).leads (((s15).now).setI kind_ n16) (s15).best (s15).cost) (IntKind.i64.wrap (kind_ + (1:Int))) (IntKind.i64.wrap (cost_ + t96))).bind fun t98 => (some t98)) s_ (t76).1 (t76).2 kind_).bind fun t14 => (idx ((t14).now).L kind_).bind fun t103 => (some (Qp.mk (t14).limits (t14).want (t14).leads (((t14).now).setI kind_ (0:Int)) (t14).best (t14).cost))))
theorem Qki {self : Qp → Int → Int → Option (Qp)} (hself : ∀ (q0 : Value) (s_ : Qp) (kind_ : Int) (cost_ : Int) (r : Qp),self s_ kind_ cost_ = some r → FnOk Tryz.prog 50 [tv q0,ti kind_,ti cost_] [box (QD.cs s_) q0] (fun _ => [box (QD.cs r) q0]) (fun _ => ttup [])) {q0 : Value} {s_ : Qp} {kind_ : Int} {cost_ : Int} {r : Qp} (h : QbC self s_ kind_ cost_ = some r) : FnOk Tryz.prog 50 [tv q0,ti kind_,ti cost_] [box (QD.cs s_) q0] (fun _ => [box (QD.cs r) q0]) (fun _ => ttup []) := by
 unfold QbC at h
 refine FnOk.enterM Tryz.func50 rfl Tryz.ntmps50 (leb rfl) (fun M0 M w0 a hpl H => ?_)
 replace H : St M w0 104 [(0,tv q0),(1,ti kind_),(2,ti cost_)] [box (QD.cs s_) q0] a w0 := H
 refine sr mx [] H (fun _ => .u [0] rfl rfl (QqY z0)<|.o (QT (R := rI) (u := kind_) z2)<|.o (QT (R := rI) (u := cost_) z4)<|.n) fun _ a w H => ?_
 have H := H.to [0,1,2,3] [_,_,_,_] [_] rfl rfl
 refine wp_seq_k (fun _ k3 => ?_)
 refine sr mx [] H (fun _ => .o (Qbp QbJ z0)<|.u [0] rfl rfl (Qay z0)<|.u [0] rfl rfl (Qz Qh7 z0)<|.u [0] rfl rfl (QaM (R := rI) (u := (s_).cost) tok3 z0 rfl)<|.o (QaY z0 .k)<|.q 0 rfl<|.g rfl rfl bq0 (fun _ => Qr tok3 z8)<|.g rfl rfl bq1 (fun _ => Qbp QbJ z7)<|.gu [0] rfl rfl rfl bq2 (fun hc => Qay (.cond z0 hc))<|.gu [0] rfl rfl rfl bq3 (fun hc => Qz Qh7 (.cond z0 hc))<|.gu [0] rfl rfl rfl bq4 (fun hc => QaM (R := rI) (u := (s_).cost) tok3 (.cond z0 hc) rfl)<|.g rfl rfl bq5 (fun hc => Qcf (.cond z4 hc) (.cond z0 hc))<|.o (QY z6 (fun hp => (.cond z0 (beqT hp))))<|.n) fun _ a w H => ?_
 have H := H.to [12,13,14,15,16] [_,_,_,_,_] [_] rfl rfl
 refine wi H h (fun b22 h => ?_) (fun b22 h => ?_)
 ·refine wp_ret ?_
  obtain rfl := sj h
  exact QpR (Qiv undef [0] hpl H rfl .nil rfl rfl rfl)
 refine wp_skip (k3 _ _ ?_)
 refine wp_seq_k (fun _ k5 => ?_)
 refine sr mx [] H (fun _ => .o (Qr tok3 z2)<|.o (Qbp QbJ z2)<|.u [0] rfl rfl (Qay z0)<|.u [0] rfl rfl (Qz QmK z0)<|.u [0] rfl rfl (QaM (R := (rSl rI)) (u := (s_).want) Qgc z0 rfl)<|.o (QN ud22 z0)<|.o (Q4 z5 z0)<|.n) fun _ a w H => ?_
 have H := H.to [6,8,9,10,11] [_,_,_,_,_] [_] rfl rfl
 refine wi H h (fun b21 h => ?_) (fun b21 h => ?_)
 ·refine wp_seq_k (fun K7 k7 => ?_)
  have ⟨t59,ht59,h⟩ := bs h
  refine sr mx [] H (fun _ => .o (Qbp QbJ z1)<|.u [0] rfl rfl (Qay z0)<|.u [0] rfl rfl (Qz Qh7 z0)<|.u [0] rfl rfl (QaM (R := rI) (u := (s_).cost) tok3 z0 rfl)<|.o (QU z0 .k)<|.q 0 rfl<|.g rfl rfl bq0 (fun _ => Qr tok3 z9)<|.g rfl rfl bq1 (fun _ => Qbp QbJ z8)<|.gu [0] rfl rfl rfl bq2 (fun hc => Qay (.cond z0 hc))<|.gu [0] rfl rfl rfl bq3 (fun hc => Qz Qh7 (.cond z0 hc))<|.gu [0] rfl rfl rfl bq4 (fun hc => QaM (R := rI) (u := (s_).cost) tok3 (.cond z0 hc) rfl)<|.g rfl rfl bq5 (fun hc => QU (.cond z4 hc) (.cond z0 hc))<|.o (Qao z6 (fun hp => (.cond z0 (beqF hp))))<|.q 0 rfl<|.g rfl rfl bq0 (fun _ => Qbp QbJ z15)<|.gu [0] rfl rfl rfl bq1 (fun hc => Qay (.cond z0 hc))<|.gu [0] rfl rfl rfl bq2 (fun hc => Qz Qh6 (.cond z0 hc))<|.gu [0] rfl rfl rfl bq3 (fun hc => QaM (R := Qx) (u := (s_).now) Qho (.cond z0 hc) rfl)<|.g rfl rfl bq4 (fun _ => Qbp QbJ z19)<|.gu [0] rfl rfl rfl bq5 (fun hc => Qay (.cond z0 hc))<|.gu [0] rfl rfl rfl bq6 (fun hc => Qz QkO (.cond z0 hc))<|.gu [0] rfl rfl rfl bq7 (fun hc => QaM (R := Qx) (u := (s_).best) Qho (.cond z0 hc) rfl)<|.g rfl rfl bq8 (fun hc => QqH (.cond z4 hc) (.cond z0 hc))<|.g rfl rfl bq9 (fun hc => Qw (.cond z0 hc))<|.g rfl rfl (.c 0 rfl) (fun _ => Qbp QbJ z25)<|.gu [0] rfl rfl rfl (.c 1 rfl) (fun hc => Qay (.cond z0 hc))<|.gu [0] rfl rfl rfl (.c 2 rfl) (fun hc => Qz Qh6 (.cond z0 hc))<|.gu [0] rfl rfl rfl (.c 3 rfl) (fun hc => QkL (j := (6:Int)) Qhx tok3 (.cond z0 hc) (.no _) (by decide) (by decide))<|.g rfl rfl (.c 4 rfl) (fun _ => Qbp QbJ z29)<|.gu [0] rfl rfl rfl (.c 5 rfl) (fun hc => Qay (.cond z0 hc))<|.gu [0] rfl rfl rfl (.c 6 rfl) (fun hc => Qz QkO (.cond z0 hc))<|.gu [0] rfl rfl rfl (.c 7 rfl) (fun hc => QkL (j := (6:Int)) Qhx tok3 (.cond z0 hc) (.no _) (by decide) (by decide))<|.gu [0] rfl rfl rfl (.c 8 rfl) (fun hc => Qg8 [box (QD.cs s_) q0] call83 (Qkg (Q9 ht59 hc)) (.cons (.asl (L := ((s_).now).L) (.cond z4 hc) (.head _) rfl (leb rfl) rfl)<|.cons (.asl (L := ((s_).best).L) (.cond z0 hc) (.head _) rfl (leb rfl) rfl)<|.nil) (fun _ => Qg7) (fun _ => Qlp (x := undef)))<|.g rfl rfl (.c 9 rfl) (fun hc => QU (.cond z0 hc) .k)<|.g rfl rfl (.b 20 rfl) (fun hc => QY (.cond z10 hc) (fun hp => (.cond z0 (Qga hc (beqT hp)))))<|.o (Qao z21 (fun hp => (.cond z0 (beqF hp))))<|.n) fun _ a w H => ?_
  have H := H.to [35,37,39,40] [_,_,_,_] [_] rfl rfl
  have ⟨p9,hp9,h⟩ := bs h
  have hJp9 : ∀ a w,St M w0 104 [(0,tv q0)] [box (QD.cs p9) q0] a w → K7 a w := by
   intro a w H
   refine k7 _ _ ?_
   refine wp_ret ?_
   obtain rfl := sj h
   exact QpR (Qiv undef [0] hpl H rfl .nil rfl rfl rfl)
  replace h := hp9
  clear hp9
  refine wi H h (fun b11 h => ?_) (fun b11 h => ?_)
  ·refine wr mx [v0 (box (QD.cs (Qp.mk (s_).limits (s_).want (s_).leads (s_).now (s_).now (s_).cost)) q0),v0 (box (QD.cs (Qp.mk (s_).limits (s_).want (s_).leads (s_).now (s_).now cost_)) q0)] H (fun _ => .o (Qbp QbJ z1)<|.o (Qbp QbJ z2)<|.o (Qbp QbJ z3)<|.u [0] rfl rfl (Qay z0)<|.u [0] rfl rfl (Qz Qh6 z0)<|.u [0] rfl rfl (QaM (R := Qx) (u := (s_).now) Qho z0 rfl)<|.o (Qr tok3 z8)<|.u [0] rfl rfl (Qay z6)<|.u [0] rfl rfl (Qz QkO z0)<|.e [] [0] [1] rfl rfl rfl rfl (Qav (R := Qx) (a := (s_).now) (Ts := (QD.cs s_)) (off := 9) Qho z0 z3 (leb rfl))<|.u [1] rfl rfl (Qay z7)<|.u [1] rfl rfl (Qz Qh7 z0)<|.e [] [1] [2] rfl rfl rfl rfl (Qav (R := rI) (a := cost_) (Ts := (QD.cs (Qp.mk (s_).limits (s_).want (s_).leads (s_).now (s_).now (s_).cost))) (off := 15) tok3 z0 z4 (leb rfl))<|.n) fun _ a w H => ?_
   have H := H.to [14] [_] [_] rfl rfl
   obtain rfl := sj h
   exact hJp9 _ _ (H.pick [0])
  refine wp_skip ?_
  obtain rfl := sj h
  exact hJp9 _ _ (H.pick [3])
 refine wp_skip (k5 _ _ ?_)
 refine wp_seq_k (fun _ k12 => ?_)
 have ⟨t76,ht76,h⟩ := bs h
 refine sr mx [v0 (box (QD.cs s_) q0)] H (fun _ => .o (Qbp QbJ z1)<|.o (Qr tok3 z3)<|.e [] [0] [1] rfl rfl rfl rfl (Qh call84 (QjI ht76) (.cons (.of z1)<|.cons (.of z0)<|.nil))<|.n) fun _ a w H => ?_
 have H := H.to [2,4,5,6,7] [_,_,_,_,_] [_] rfl rfl
 refine wp_block ?_
 have ⟨t14,ht14,h⟩ := bs h
 refine Qry (A := fun s => [box (QD.cs s) q0]) H z0 Qva (fun l LR hY => QiZ hY ht14) (by decide) rfl (fun s15 n16 r17 h M0 M w0 a l LR LB K Q hpl H hK hQ => ?_) (fun D a w M hpm H => ?_)
 ·refine QpS mixed rfl [] H (fun _ => .o (Qa z0)<|.nil _ _) (by kernel_rfl) (fun _ a w H => ?_)
  have H := H.to [0,3,4,5,6] [_,_,_,_,_] [_,_] rfl rfl
  refine hK _ _ _ _ H (fun w H => ?_)
  refine wpIn_block ?_
  refine wpIn_seq_k (fun _ k19 => ?_)
  have ⟨t83,ht83,h⟩ := bs h
  refine QpS mixed rfl [v0 (box (QD.cs (Qp.mk (s15).limits (s15).want (s15).leads (((s15).now).setI kind_ n16) (s15).best (s15).cost)) q0)] H (fun _ => .o (Qbp QbJ z1)<|.o (Qr tok3 z3)<|.q 2 rfl<|.u [1] rfl rfl (Qay z2)<|.u [1] rfl rfl (Qz Qh6 z0)<|.u [1] rfl rfl (QoL (L := ((s15).now).L) Qhx tok3 rfl z0 z3 rfl ht83)<|.e [] [1] [2] rfl rfl rfl rfl (QkK (a := n16) (Ts := (QD.cs s15)) (o := 3) (L := ((s15).now).L) tok3 rfl z0 z3 ht83 (leb rfl) (Ql.spl (pre := List.take 3 (QD.cs s15)) (post := List.drop 9 (QD.cs s15)) rfl ht83))<|.nil _ _) (by kernel_rfl) (fun _ a w H => ?_)
  have H := H.to [6,7,8,9,10] [_,_,_,_,_] [_,_] rfl rfl
  refine k19 _ _ ?_
  have ⟨t94,ht94,h⟩ := bs h
  have ⟨t96,ht96,h⟩ := bs h
  have ⟨t98,ht98,h⟩ := bs h
  refine QpS mixed rfl [v0 (box (QD.cs t98) q0)] H (fun _ => .o (Qbp QbJ z1)<|.o (Qr tok3 z3)<|.o (QV z0 .k)<|.o (Qr tok3 z6)<|.q 4 rfl<|.o (Qbp QbJ z6)<|.u [1] rfl rfl (Qay z0)<|.u [1] rfl rfl (Qz QmK z0)<|.u [1] rfl rfl (QaM (R := (rSl rI)) (u := (s15).want) Qgc z0 rfl)<|.o (Qr tok3 z11)<|.o (QG ud22 tok3 z1 z0 ht94)<|.o (Qr tok3 z0)<|.o (Qh call85 (Qph ht96) (.cons (.of z7)<|.cons (.of z0)<|.nil))<|.o (QV z9 z0)<|.e [] [1] [2] rfl rfl rfl rfl (Qh Qsw (hself _ _ _ _ _ ht98) (.cons (.of z13)<|.cons (.of z11)<|.cons (.of z0)<|.nil))<|.nil _ _) (by kernel_rfl) (fun _ a w H => ?_)
  have H := H.to [16,17,18,19] [_,_,_,_] [_,_] rfl rfl
  obtain rfl := sj h
  exact hQ _ [0,1] _ _ _ H rfl rfl
 replace hpl := hpm _ _ hpl
 have H := H.to [1,2,3,4] [_,_,_,_] [_,_] rfl rfl
 refine k12 _ _ ?_
 have ⟨t103,ht103,h⟩ := bs h
 refine wr mx [v0 (box (QD.cs (Qp.mk (t14).limits (t14).want (t14).leads (((t14).now).setI kind_ (0:Int)) (t14).best (t14).cost)) q0)] H (fun _ => .o (Qbp QbJ z0)<|.o (Qr tok3 z2)<|.u [1] rfl rfl (Qay z1)<|.u [1] rfl rfl (Qz Qh6 z0)<|.u [1] rfl rfl (QoL (L := ((t14).now).L) Qhx tok3 rfl z0 z2 rfl ht103)<|.e [] [1] [2] rfl rfl rfl rfl (QkK (a := (0:Int)) (Ts := (QD.cs t14)) (o := 3) (L := ((t14).now).L) tok3 rfl z0 .k ht103 (leb rfl) (Ql.spl (pre := List.take 3 (QD.cs t14)) (post := List.drop 9 (QD.cs t14)) rfl ht103))<|.n) fun _ a w H => ?_
 have H := H.to [8] [_] [_,_] rfl rfl
 obtain rfl := sj h
 exact Qsj undef [1] hpl H rfl .nil rfl rfl rfl
noncomputable def QaV : Nat → Qp → Int → Int → Option (Qp)
 | 0 => fun _ _ _ => none
 | n + 1 => QbC (QaV n)
theorem QgH : ∀ (n : Nat) (q0 : Value) (s_ : Qp) (kind_ : Int) (cost_ : Int) (r : Qp),QaV n s_ kind_ cost_ = some r → FnOk Tryz.prog 50 [tv q0,ti kind_,ti cost_] [box (QD.cs s_) q0] (fun _ => [box (QD.cs r) q0]) (fun _ => ttup [])
 | 0,_,_,_,_,r,h => by cases h
 | n + 1,q0,s_,kind_,cost_,r,h => Qki (fun q0 s_ kind_ cost_ r h => QgH n q0 s_ kind_ cost_ r h) h
noncomputable def QeA (s_ : Qp) (kind_ : Int) (cost_ : Int) : Option (Qp) := QaV ((s_).want.length + 2) s_ kind_ cost_
theorem QkW {q0 : Value} {s_ : Qp} {kind_ : Int} {cost_ : Int} {r : Qp} (h : QeA s_ kind_ cost_ = some r) : FnOk Tryz.prog 50 [tv q0,ti kind_,ti cost_] [box (QD.cs s_) q0] (fun _ => [box (QD.cs r) q0]) (fun _ => ttup []) := QgH _ _ _ _ _ _ h

/- slices.Clone[[]int,int] -/
noncomputable def QcR (s_ : (List Int)) : Option ((List Int)) := (rm (([] : List Int).length + s_.length)).bind fun _ => (some (([] : List Int) ++ s_))
theorem Qle {s_ : (List Int)} {r : (List Int)} (h : QcR s_ = some r) : FnOk Tryz.prog 51 [tsl rI s_] [] (fun v => [own rI 3 r v]) (fun v => tv v) := by
 unfold QcR at h
 refine fe Tryz.func51 Tryz.ntmps51 fun M0 M w0 a hpl H => ?_
 replace H : St M w0 8 [(0,tsl rI s_)] [] a w0 := H
 refine sr mx [] H (fun _ => .o (Qa .k)<|.n) fun _ a w H => ?_
 have H := H.to [1] [_] [] rfl rfl
 refine wp_seq_k (fun _ k2 => ?_)
 refine sr mx [] H (fun _ => .q 0 rfl<|.o (op_eqNil' ud22 z0)<|.n) fun _ a w H => ?_
 have H := H.to [1,2] [_,_] [] rfl rfl
 refine QqE 0 H rfl (fun b8 => ?_) ?_
 ·replace h : (some ([] : List Int)) = some r := by
   have ⟨_,_,h⟩ := bs h
   rw [b8] at h
   exact h
  refine sr mx [] H (fun _ => .o (Qa .k)<|.n) fun _ a w H => ?_
  replace H : St _ _ _ [_] [_] _ _ := (H.pick [0]).nil (rI) 3
  refine wp_ret ?_
  obtain rfl := sj h
  exact rt (.slice none 0 0) [0] hpl H (.tmp z0 .nil)
 refine wp_skip (k2 _ _ ?_)
 refine wp_seq_k (fun _ k6 => ?_)
 have ⟨u7,hu7,h⟩ := bs h
 refine wr mx [v1 0 (fun v0 => own rI 3 ([] : List Int) v0),v1 2 (fun v0 => own rI 3 (([] : List Int) ++ s_) v0)] H (fun _ => .m [] [0] rfl rfl rfl (QgE (R := rI) (us := ([] : List Int)) ud22 tok3 (.nil _) rfl (leb rfl) (leb rfl))<|.q 2 rfl<|.e [] [0] [1] rfl rfl rfl rfl (Qaf (R := rI) ud22 tok3 (leb rfl) z1 z0 hu7)<|.ud (f := fun v => tv v) 2 rfl [] rfl rfl (Qa z0)<|.n) fun n3 a w H => ?_
 have H := H.to [2,3] [_,_] [_] rfl rfl
 refine k6 _ _ ?_
 refine wp_ret ?_
 obtain rfl := sj h
 exact rt (n3 2) [0] hpl H (.tmp z1 .nil)

/- diorama/counts.Plan -/
noncomputable def Qbq (x_ : Qg) (want_ : (List Int)) : Option ((List Int) × Int) := (Qa2 x_).bind fun t17 => (if (t17.2.2 != (0:Int)) = true then (some (([] : List Int),t17.2.2)) else (opt (((want_.length : Int) != ((x_).Kinds.length : Int)) == false) (QaD want_ (fun x0 => Qc4 x0)) default).bind fun t32 => (if (((want_.length : Int) != ((x_).Kinds.length : Int)) || t32) = true then (some (([] : List Int),(1:Int))) else (mk (want_.length : Int) false).bind fun t38 => (QI (fun (s14 : Int × List Bool) => ((if (decide (s14.1 < (t17.1.length : Int))) = true then (idx t17.1 s14.1).bind fun t45 => ((if (decide ((t45).B ≥ (0:Int))) = true then (setAt s14.2 (t45).B true).bind fun t56s => (some t56s) else (some s14.2))).bind fun (p92 : List Bool) => (some (.inl ((IntKind.i64.wrap (s14.1 + (1:Int))),p92))) else (some (.inr s14.2))) : Option ((Int × List Bool) ⊕ ((List Bool))))) ((0:Int),t38)).bind fun (p36 : (List Bool)) => (QI (fun (s40 : Int × Int) => ((if (decide (s40.1 < ((x_).Kinds.length : Int))) = true then (idx (x_).Kinds s40.1).bind fun t64 => (idx p36 s40.1).bind fun t71 => ((if (t71 && (decide (s40.2 ≤ (131072:Int)))) = true then (some (IntKind.i64.wrap (s40.2 * (IntKind.i64.wrap ((IntKind.i64.wrap ((t64).Hi - (t64).Lo)) + (1:Int)))))) else (some s40.2))).bind fun (p81 : Int) => (some (.inl ((IntKind.i64.wrap (s40.1 + (1:Int))),p81))) else (some (.inr s40.2))) : Option ((Int × Int) ⊕ ((Int))))) ((0:Int),(1:Int))).bind fun (p62 : (Int)) => (if (decide (p62 > (131072:Int))) = true then (some (([] : List Int),(4:Int))) else (QeA (Qp.mk t17.1 want_ p36 zz6 zz6 (-1:Int)) (0:Int) (0:Int)).bind fun t89 => (if (decide ((t89).cost < (0:Int))) = true then (some (([] : List Int),(14:Int))) else (sub ((t89).best).L (0:Int) (want_.length : Int)).bind fun t100 => (QcR t100).bind fun t101 => (some (t101,(0:Int)))))))
theorem Qgm {x_ : Qg} {want_ : (List Int)} {r : (List Int) × Int} (h : Qbq x_ want_ = some r) : FnOk Tryz.prog 23 [Qm.ty x_,tsl rI want_] [glo] (fun _ => []) (fun _ => ttup [tsl rI r.1,ti r.2]) := by
 unfold Qbq at h
 refine fe Tryz.func23 Tryz.ntmps23 fun M0 M w0 a hpl H => ?_
 replace H : St M w0 102 [(0,Qm.ty x_),(1,tsl rI want_)] [glo] a w0 := H
 refine sr mx [] H (fun _ => .o (QT (R := Qm) (u := x_) z0)<|.o (Qa (.nilsl (R := rI)))<|.o (Qa .k)<|.n) fun _ a w H => ?_
 have H := H.to [0,4] [_,_] [_] rfl rfl
 have ⟨t17,ht17,h⟩ := bs h
 refine sr mx [] H (fun _ => .o (Qr QaR z0)<|.u [0] rfl rfl ((Qh QpY (QgV ht17) (.cons (.of z0)<|.nil)).glo)<|.q 0 rfl<|.o (QM z0 rfl)<|.o (QM z1 rfl)<|.o (QM z2 rfl)<|.o (Qa z2)<|.o (Qa z2)<|.o (Qa z2)<|.n) fun _ a w H => ?_
 have H := H.to [6,8,9,10] [_,_,_,_] [_] rfl rfl
 refine wp_seq_k (fun _ k3 => ?_)
 refine sr mx [] H (fun _ => .q 1 rfl<|.o (Qam z0 .k)<|.n) fun _ a w H => ?_
 have H := H.to [1,2,3,4,5] [_,_,_,_,_] [_] rfl rfl
 refine wi H h (fun b97 h => ?_) (fun b97 h => ?_)
 ·refine sr mx [] H (fun _ => .q 2 rfl<|.o (Qa (.nilsl (R := rI)))<|.o (Qa z1)<|.n) fun _ a w H => ?_
  have H := H.to [1,2] [_,_] [_] rfl rfl
  refine wp_ret ?_
  obtain rfl := sj h
  exact rt undef [] hpl H (.tmp z0 (.tmp z1 .nil))
 refine wp_skip (k3 _ _ ?_)
 refine wp_seq_k (fun _ k6 => ?_)
 have ⟨t32,ht32,h⟩ := bs h
 refine sr mx [] H (fun _ => .q 4 rfl<|.o (QN ud22 z0)<|.o (Qe QaJ z5)<|.o (Qf (u := (x_).Kinds) Qdp z0 rfl)<|.o (QN ud23 z0)<|.o (Qam z3 z0)<|.q 0 rfl<|.g rfl rfl bq0 (fun _ => Qw z11)<|.g rfl rfl bq1 (fun hc => Qh Qst (Qfx (Q9 ht32 hc)) (.cons (.of (.cond z0 hc))<|.cons (.of (Fct.weak .fnE (Qb1 call49 (fun _ _ hq => QmV hq))))<|.nil))<|.o (Qao z2 (fun hp => (.cond z0 (beqF hp))))<|.n) fun _ a w H => ?_
 have H := H.to [9,11,13,14] [_,_,_,_] [_] rfl rfl
 refine wi H h (fun b96 h => ?_) (fun b96 h => ?_)
 ·refine sr mx [] H (fun _ => .o (Qa (.nilsl (R := rI)))<|.o (Qa .k)<|.n) fun _ a w H => ?_
  have H := H.to [0,1] [_,_] [_] rfl rfl
  refine wp_ret ?_
  obtain rfl := sj h
  exact rt undef [] hpl H (.tmp z0 (.tmp z1 .nil))
 refine wp_skip (k6 _ _ ?_)
 refine wp_seq_k (fun _ k9 => ?_)
 have ⟨t38,ht38,h⟩ := bs h
 refine Qev mixed [v1 4 (fun v0 => own Qa5 4 t38 v0),v2 4 6 (fun v0 v1 => box ([tsl Qj t17.1,tsl rI want_,tvs v0] ++ Qx.cs zz6 ++ Qx.cs zz6 ++ [ti (-1:Int)]) v1)] H (fun n6 => .q 1 rfl<|.q 4 rfl<|.q 5 rfl<|.o (QN ud22 z0)<|.m [] [1] rfl rfl rfl (Qtz (R := Qa5) Qpt tok4 zok4 (leb rfl) z0 z0 ht38)<|.ud (f := fun v => tagg ([tsl Qj t17.1,tsl rI want_,tvs v] ++ Qx.cs zz6 ++ Qx.cs zz6 ++ [ti (-1:Int)])) 4 rfl [1] rfl rfl (.say (A := own Qa5 4 t38 (n6 4)) (.head _) (fun _ _ h => Ql1 h) fun hu1 => OpJ.useMore (U := []) (fun A hA => by cases hA) (QX Tryz.underlying105 pl105 zv105 zc105 (.cons (R := (rSl Qj)) (u := t17.1) rfl z4 (leb rfl)<|.cons (R := (rSl rI)) (u := want_) rfl z3 (leb rfl)<|.cons (R := rVal) (u := (n6 4)) rfl (Fct.weak z0 fun _ _ _ h => ⟨h,hu1⟩) (leb rfl)<|.cons (R := rI) (u := (-1:Int)) rfl .k (leb rfl)<|.nil _)))<|.m [] [2] rfl rfl rfl (Qsa (R := (rAgg ([tsl Qj t17.1,tsl rI want_,tvs (n6 4)] ++ Qx.cs zz6 ++ Qx.cs zz6 ++ [ti (-1:Int)]) (Qha (Qha (Qha (Qy Qcd (Qy Qcd (Qy QdW Qal))) (Qjb Qx)) (Qjb Qx)) (Qy (Q3 rfl) Qal)))) (u := ()) z0)<|.ud (f := fun v => tv v) 6 rfl [] rfl rfl (Qa z0)<|.nil _ _) (by kernel_rfl) (fun n6 a w H => ?_)
 have H := H.to [4,7,9,10,11] [_,_,_,_,_] [_,_,_] rfl rfl
 refine k9 _ _ ?_
 refine wp_seq_k (fun K12 k12 => ?_)
 refine sr mx [] H (fun _ => .q 2 rfl<|.o (QN ud31 z0)<|.o (Qw .k)<|.n) fun _ a w H => ?_
 have H := H.to [0,1,2,3,4,6,7] [_,_,_,_,_,_,_] [_,_,_] rfl rfl
 have ⟨e15,he15,h⟩ := bs h
 have hJp36 : ∀ (p36 : List Bool) a w,p36 = e15 → St M w0 102 [(9,tv (n6 6)),(2,tptr (Qm.cs x_)),(1,tsl rI want_)] [glo,own Qa5 4 p36 (n6 4),box ([tsl Qj t17.1,tsl rI want_,tvs (n6 4)] ++ Qx.cs zz6 ++ Qx.cs zz6 ++ [ti (-1:Int)]) (n6 6)] a w → K12 a w := by
  intro p36 a w he H
  subst he
  refine k12 _ _ ?_
  refine sr mx [] H (fun _ => .o (Qa .k)<|.n) fun _ a w H => ?_
  have H := H.to [0,1,2,3] [_,_,_,_] [_,_,_] rfl rfl
  refine wp_seq_k (fun K38 k38 => ?_)
  refine sr mx [] H (fun _ => .o (Qe QaJ z2)<|.o (Qf (u := (x_).Kinds) Qdp z0 rfl)<|.o (QN ud23 z0)<|.o (Qw .k)<|.n) fun _ a w H => ?_
  have H := H.to [1,2,3,4,5,7] [_,_,_,_,_,_] [_,_,_] rfl rfl
  have ⟨e41,he41,h⟩ := bs h
  have hJp62 : ∀ (p62 : Int) a w,p62 = e41 → St M w0 102 [(12,ti p62),(9,tv (n6 6)),(1,tsl rI want_)] [glo,own Qa5 4 p36 (n6 4),box ([tsl Qj t17.1,tsl rI want_,tvs (n6 4)] ++ Qx.cs zz6 ++ Qx.cs zz6 ++ [ti (-1:Int)]) (n6 6)] a w → K38 a w := by
   intro p62 a w he H
   subst he
   refine k38 _ _ ?_
   refine wp_seq_k (fun _ k63 => ?_)
   refine sr mx [] H (fun _ => .q 0 rfl<|.o (Qcf z0 .k)<|.n) fun _ a w H => ?_
   have H := H.to [1,3,4] [_,_,_] [_,_,_] rfl rfl
   refine wi H h (fun b73 h => ?_) (fun b73 h => ?_)
   ·refine sr mx [] H (fun _ => .o (Qa (.nilsl (R := rI)))<|.o (Qa .k)<|.n) fun _ a w H => ?_
    replace H : St _ _ _ [_,_] [_] _ _ := (H.pick [0,1]).selA [0] rfl
    refine wp_ret ?_
    obtain rfl := sj h
    exact rt undef [] hpl H (.tmp z0 (.tmp z1 .nil))
   refine wp_skip (k63 _ _ ?_)
   refine wp_seq_k (fun _ k66 => ?_)
   refine wp_seq_k (fun _ k67 => ?_)
   replace H : St _ _ _ [_,_,_] [_,_] _ _ := ((H.pick [0,1,2]).selA [1,2,0] rfl).shareC 2 rfl
   have ⟨t89,ht89,h⟩ := bs h
   refine wr mx [v0 (box (QD.cs t89) (n6 6))] H (fun _ => .q 1 rfl<|.e [] [0] [2] rfl rfl rfl rfl (Qh Qsw (QkW ht89) (.cons (.of z0)<|.cons (.of .k)<|.cons (.of .k)<|.nil))<|.n) fun _ a w H => ?_
   have H := H.to [3,4] [_,_] [_,_] rfl rfl
   refine k67 _ _ ?_
   refine sr mx [] H (fun _ => .q 0 rfl<|.u [1] rfl rfl (Qay z0)<|.u [1] rfl rfl (Qz Qh7 z0)<|.u [1] rfl rfl (QaM (R := rI) (u := (t89).cost) tok3 z0 rfl)<|.o (QU z0 .k)<|.n) fun _ a w H => ?_
   have H := H.to [4,5,6] [_,_,_] [_,_] rfl rfl
   refine wi H h (fun b72 h => ?_) (fun b72 h => ?_)
   ·refine sr mx [] H (fun _ => .o (Qa (.nilsl (R := rI)))<|.o (Qa .k)<|.n) fun _ a w H => ?_
    replace H : St _ _ _ [_,_] [_] _ _ := (H.pick [0,1]).selA [0] rfl
    refine wp_ret ?_
    obtain rfl := sj h
    exact rt undef [] hpl H (.tmp z0 (.tmp z1 .nil))
   refine wp_skip (k66 _ _ ?_)
   have ⟨t100,ht100,h⟩ := bs h
   have ⟨t101,ht101,h⟩ := bs h
   refine sr mx [v1 6 (fun v0 => own rI 3 t101 v0)] H (fun _ => .q 1 rfl<|.u [1] rfl rfl (Qay z0)<|.u [1] rfl rfl (Qz QkO z0)<|.q 5 rfl<|.o (QN ud22 z0)<|.u [1] rfl rfl (QkL (j := (want_.length : Int)) Qhx tok3 z2 (.op z0) (sub_hi ht100) (by decide))<|.m [1] [2] rfl rfl rfl (Qg8 [box (QD.cs t89) (n6 6)] call51 (Qle ht101) (.cons (.aslH (L := ((t89).best).L) z0 (.head _) ht100 rfl rfl)<|.nil) (fun _ => Qg7) (fun _ => flatN1 (QtD (by intro x T h; simp at h; (first | (subst h; exact Qg7) | (rcases h with h | h | h <;> subst h <;> exact Qg7))))))<|.ud (f := fun v => tv v) 6 rfl [] rfl rfl (Qa z0)<|.o (Qa .k)<|.n) fun _ a w H => ?_
   replace H : St _ _ _ [_,_,_] [_,_] _ _ := (H.pick [6,7,8]).selA [0,2] rfl
   refine wp_ret ?_
   replace H : St _ _ _ [_,_] [_] _ _ := ((H.selA [1,0] rfl).shareO 1 rfl).pick [0,3]
   obtain rfl := sj h
   exact rt undef [] hpl H (.tmp z0 (.tmp z1 .nil))
  refine wp_block ?_
  refine QZ _ (fun (s40 : Int × Int) a w => St M w0 102 [(59,tsl Qk (x_).Kinds),(60,ti ((x_).Kinds.length : Int)),(61,ti s40.1),(12,ti s40.2),(9,tv (n6 6)),(1,tsl rI want_)] [glo,own Qa5 4 p36 (n6 4),box ([tsl Qj t17.1,tsl rI want_,tvs (n6 4)] ++ Qx.cs zz6 ++ Qx.cs zz6 ++ [ti (-1:Int)]) (n6 6)] a w) _ _ he41 (H.pick [0,1,2,3,4,5]) ?_
  clear h
  intro s40 o a w K74 hI h ho k74
  have H := hI
  clear hI
  refine sr mx [] H (fun _ => .o (QU z2 z1)<|.n) fun _ a w H => ?_
  have H := H.to [0,1,2,3,4,5,6] [_,_,_,_,_,_,_] [_,_,_] rfl rfl
  refine wp_seq_k (fun _ k76 => ?_)
  refine wi H h (fun b84 h => ?_) (fun b84 h => ?_)
  ·refine wp_skip (k76 _ _ ?_)
   refine wp_seq_k (fun K77 k77 => ?_)
   refine wp_block ?_
   have ⟨t64,ht64,h⟩ := bs h
   refine sr mx [v1 3 (fun v0 => box (Qk.cs zz1) v0),v1 3 (fun v0 => box (Qk.cs t64) v0)] H (fun _ => .q 3 rfl<|.o (QG ud23 Q7 z2 z4 ht64)<|.o (Qr Q7 z0)<|.m [] [3] rfl rfl rfl (Q1 (R := Qk) (a := zz1) Q7 QiY)<|.o (Qa z3)<|.e [] [3] [4] rfl rfl rfl rfl (QR (R := Qk) (a := t64) Q7 z1 z2 (leb rfl))<|.n) fun _ a w H => ?_
   replace H : St _ _ _ [_,_,_,_,_,_,_,_] [_,_,_] _ _ := ((((H.pick [3,4,6,7,8,9,10,11]).selA [3,0,1,2] rfl).shareB 0 rfl).add 0 rfl (fun _ _ _ h => h.2)).pick [0,3,4,5,6,7,8,9]
   have ⟨t71,ht71,h⟩ := bs h
   refine sr mx [] H (fun _ => .q 6 rfl<|.u [2] rfl rfl (Qay z0)<|.u [2] rfl rfl (Qz QmL z0)<|.u [2] rfl rfl (Qac (u := (n6 4)) QqZ z0 rfl)<|.q 5 rfl<|.u [1] rfl rfl (Qcl Qpt tok4 z1 z0 ht71)<|.u [1] rfl rfl (QmJ tok4 z0 ht71)<|.q 0 rfl<|.g rfl rfl bq0 (fun _ => Qw z13)<|.g rfl rfl bq1 (fun hc => Qd5 (.cond z0 hc) .k)<|.o (QY z2 (fun hp => (.cond z0 (beqT hp))))<|.n) fun _ a w H => ?_
   have H := H.to [3,10,11,13,14,15,16,17,18] [_,_,_,_,_,_,_,_,_] [_,_,_] rfl rfl
   have ⟨p81,hp81,h⟩ := bs h
   have hJp81 : ∀ a w,St M w0 102 [(12,ti p81),(59,tsl Qk (x_).Kinds),(60,ti ((x_).Kinds.length : Int)),(61,ti s40.1),(9,tv (n6 6)),(1,tsl rI want_)] [glo,own Qa5 4 p36 (n6 4),box ([tsl Qj t17.1,tsl rI want_,tvs (n6 4)] ++ Qx.cs zz6 ++ Qx.cs zz6 ++ [ti (-1:Int)]) (n6 6)] a w → K77 a w := by
    intro a w H
    refine k77 _ _ ?_
    refine wr mx [] H (fun _ => .o (QV z3 .k)<|.q 0 rfl<|.n) fun _ a w H => ?_
    have H := H.to [1,2,3,4,5,6] [_,_,_,_,_,_] [_,_,_] rfl rfl
    exact k74 _ _ _ (sj h).symm (H.pick [2,3,0,1,4,5])
   replace h := hp81
   clear hp81
   refine Qn0 1 H rfl (fun b83 => ?_) (fun b83 => ?_)
   ·replace h := QlZ b83 h
    refine wr mx [] H (fun _ => .q 6 rfl<|.o (Qe Qka z3)<|.o (Qf (u := (t64).Hi) tok3 z0 rfl)<|.o (Qe Qjd z5)<|.o (Qf (u := (t64).Lo) tok3 z0 rfl)<|.o (Qdc z2 z0)<|.o (QV z0 .k)<|.o (Qm8 z6 z0)<|.o (Qa z0)<|.n) fun _ a w H => ?_
    have H := H.to [8,9,12,13,14,15,16] [_,_,_,_,_,_,_] [_,_,_] rfl rfl
    obtain rfl := sj h
    exact hJp81 _ _ (H.pick [0,2,3,4,5,6])
   replace h := Ql0 b83 h
   refine wp_skip ?_
   obtain rfl := sj h
   exact hJp81 _ _ (H.pick [6,3,4,5,7,8])
  refine wp_exit ?_
  exact hJp62 _ _ _ (ho _ (sj h).symm) (H.pick [4,5,6])
 refine wp_block ?_
 refine QZ _ (fun (s14 : Int × List Bool) a w => St M w0 102 [(41,tsl Qj t17.1),(42,ti (t17.1.length : Int)),(43,ti s14.1),(9,tv (n6 6)),(2,tptr (Qm.cs x_)),(1,tsl rI want_)] [glo,own Qa5 4 s14.2 (n6 4),box ([tsl Qj t17.1,tsl rI want_,tvs (n6 4)] ++ Qx.cs zz6 ++ Qx.cs zz6 ++ [ti (-1:Int)]) (n6 6)] a w) _ _ he15 (H.pick [0,1,2,4,5,6]) ?_
 clear h
 intro s14 o a w K85 hI h ho k85
 have H := hI
 clear hI
 refine sr mx [] H (fun _ => .o (QU z2 z1)<|.n) fun _ a w H => ?_
 have H := H.to [0,1,2,3,4,5,6] [_,_,_,_,_,_,_] [_,_,_] rfl rfl
 refine wp_seq_k (fun _ k87 => ?_)
 refine wi H h (fun b95 h => ?_) (fun b95 h => ?_)
 ·refine wp_skip (k87 _ _ ?_)
  refine wp_seq_k (fun K88 k88 => ?_)
  refine wp_block ?_
  have ⟨t45,ht45,h⟩ := bs h
  refine sr mx [v1 2 (fun v0 => box (Qj.cs zz5) v0),v1 2 (fun v0 => box (Qj.cs t45) v0)] H (fun _ => .o (QG ud31 QaE z1 z3 ht45)<|.o (Qr QaE z0)<|.m [] [3] rfl rfl rfl (Q1 (R := Qj) (a := zz5) QaE QrF)<|.e [] [3] [4] rfl rfl rfl rfl (QR (R := Qj) (a := t45) QaE z0 z1 (leb rfl))<|.n) fun _ a w H => ?_
  replace H : St _ _ _ [_,_,_,_,_,_,_] [_,_,_] _ _ := ((((H.pick [2,4,5,6,7,8,9]).selA [3,0,1,2] rfl).shareB 0 rfl).add 0 rfl (fun _ _ _ h => h.2)).pick [0,3,4,5,6,7,8]
  refine sr mx [] H (fun _ => .o (Qe QeT z0)<|.o (Qf (u := (t45).B) tok3 z0 rfl)<|.o (QaY z0 .k)<|.n) fun _ a w H => ?_
  have H := H.to [2,3,4,5,6,7,8,9] [_,_,_,_,_,_,_,_] [_,_,_] rfl rfl
  have ⟨p92,hp92,h⟩ := bs h
  have hJp92 : ∀ a w,St M w0 102 [(41,tsl Qj t17.1),(42,ti (t17.1.length : Int)),(43,ti s14.1),(9,tv (n6 6)),(2,tptr (Qm.cs x_)),(1,tsl rI want_)] [glo,box ([tsl Qj t17.1,tsl rI want_,tvs (n6 4)] ++ Qx.cs zz6 ++ Qx.cs zz6 ++ [ti (-1:Int)]) (n6 6),own Qa5 4 p92 (n6 4)] a w → K88 a w := by
   intro a w H
   refine k88 _ _ ?_
   refine wr mx [] H (fun _ => .o (QV z2 .k)<|.q 0 rfl<|.n) fun _ a w H => ?_
   have H := H.to [1,2,3,4,5,6] [_,_,_,_,_,_] [_,_,_] rfl rfl
   exact k85 _ _ _ (sj h).symm ((H.pick [1,2,0,3,4,5]).selA [0,2,1] rfl)
  replace h := hp92
  clear hp92
  refine wi H h (fun b94 h => ?_) (fun b94 h => ?_)
  ·have ⟨t56s,ht56s,h⟩ := bs h
   refine wr mx [v0 (own Qa5 4 t56s (n6 4))] H (fun _ => .q 5 rfl<|.u [2] rfl rfl (Qay z0)<|.u [2] rfl rfl (Qz QmL z0)<|.u [2] rfl rfl (Qac (u := (n6 4)) QqZ z0 rfl)<|.o (Qe QeT z5)<|.o (Qf (u := (t45).B) tok3 z0 rfl)<|.u [1] rfl rfl (Qng Qpt tok4 z2 z0 ht56s)<|.e [] [1] [3] rfl rfl rfl rfl (QoH tok4 z0 .k ht56s)<|.n) fun _ a w H => ?_
   have H := H.to [3,9,10,11,12,13,14] [_,_,_,_,_,_,_] [_,_,_] rfl rfl
   obtain rfl := sj h
   exact hJp92 _ _ (H.pick [1,2,3,4,5,6])
  refine wp_skip ?_
  obtain rfl := sj h
  exact hJp92 _ _ ((H.pick [2,3,4,5,6,7]).selA [0,2,1] rfl)
 refine wp_exit ?_
 exact hJp36 _ _ _ (ho _ (sj h).symm) (H.pick [4,5,6])

/- (diorama/counts.Limit).valid -/
noncomputable def QbD (l_ : Qb) (n_ : Int) : Option (Bool) := (some ((((((decide ((l_).A ≥ (0:Int))) && (decide ((l_).A < n_))) && (decide ((l_).B ≥ (-1:Int)))) && (decide ((l_).B < n_))) && (decide ((l_).Mul ≥ (0:Int)))) && (decide ((l_).Mul ≤ (65536:Int)))))
theorem Qhd {l_ : Qb} {n_ : Int} {r : Bool} (h : QbD l_ n_ = some r) : FnOk Tryz.prog 42 [Qj.ty l_,ti n_] [] (fun _ => []) (fun _ => tb r) := by
 unfold QbD at h
 refine fe Tryz.func42 Tryz.ntmps42 fun M0 M w0 a hpl H => ?_
 replace H : St M w0 35 [(0,Qj.ty l_),(1,ti n_)] [] a w0 := H
 refine sr mx [] H (fun _ => .o (QT (R := Qj) (u := l_) z0)<|.o (Qa .k)<|.n) fun _ a w H => ?_
 have H := H.to [0,3] [_,_] [] rfl rfl
 refine sr mx [] H (fun _ => .o (Qe Qgg z0)<|.o (Qf (u := (l_).A) tok3 z0 rfl)<|.o (QaY z0 .k)<|.q 0 rfl<|.g rfl rfl bq0 (fun _ => Qe Qgg z4)<|.g rfl rfl bq1 (fun hc => Qf (u := (l_).A) tok3 (.cond z0 hc) rfl)<|.g rfl rfl bq2 (fun _ => Qw z7)<|.g rfl rfl bq3 (fun hc => QU (.cond z1 hc) (.cond z0 hc))<|.o (QY z4 (fun hp => (.cond z0 (beqT hp))))<|.q 0 rfl<|.g rfl rfl bq0 (fun _ => Qe QeT z10)<|.g rfl rfl bq1 (fun hc => Qf (u := (l_).B) tok3 (.cond z0 hc) rfl)<|.g rfl rfl bq2 (fun hc => QaY (.cond z0 hc) .k)<|.o (QY z3 (fun hp => (.cond z0 (beqT hp))))<|.q 0 rfl<|.g rfl rfl bq0 (fun _ => Qe QeT z15)<|.g rfl rfl bq1 (fun hc => Qf (u := (l_).B) tok3 (.cond z0 hc) rfl)<|.g rfl rfl bq2 (fun _ => Qw z18)<|.g rfl rfl bq3 (fun hc => QU (.cond z1 hc) (.cond z0 hc))<|.o (QY z4 (fun hp => (.cond z0 (beqT hp))))<|.q 0 rfl<|.g rfl rfl bq0 (fun _ => Qe Qgh z21)<|.g rfl rfl bq1 (fun hc => Qf (u := (l_).Mul) tok3 (.cond z0 hc) rfl)<|.g rfl rfl bq2 (fun hc => QaY (.cond z0 hc) .k)<|.o (QY z3 (fun hp => (.cond z0 (beqT hp))))<|.q 0 rfl<|.g rfl rfl bq0 (fun _ => Qe Qgh z26)<|.g rfl rfl bq1 (fun hc => Qf (u := (l_).Mul) tok3 (.cond z0 hc) rfl)<|.g rfl rfl bq2 (fun hc => Qd5 (.cond z0 hc) .k)<|.o (QY z3 (fun hp => (.cond z0 (beqT hp))))<|.o (Qa z0)<|.n) fun _ a w H => ?_
 have H := H.to [30] [_] [] rfl rfl
 refine wp_ret ?_
 obtain rfl := sj h
 exact rt undef [] hpl H (.tmp z0 .nil)

/- diorama/counts.Clash$1 -/
noncomputable def QcL (x_ : Qb) (c0_ : Int) : Option (Bool) := (QbD x_ c0_).bind fun t6 => (some (!t6))
theorem Qmt {x_ : Qb} {c0_ : Int} {r : Bool} (h : QcL x_ c0_ = some r) : FnOk Tryz.prog 56 [Qj.ty x_,tptr (rI.cs c0_)] [] (fun _ => []) (fun _ => tb r) := by
 unfold QcL at h
 refine fe Tryz.func56 Tryz.ntmps56 fun M0 M w0 a hpl H => ?_
 replace H : St M w0 8 [(0,Qj.ty x_),(1,tptr (rI.cs c0_))] [] a w0 := H
 refine sr mx [] H (fun _ => .o (QT (R := Qj) (u := x_) z0)<|.o (Qa .k)<|.n) fun _ a w H => ?_
 have H := H.to [0,3] [_,_] [] rfl rfl
 have ⟨t6,ht6,h⟩ := bs h
 refine sr mx [] H (fun _ => .o (Qr QaE z0)<|.o (Qr tok3 z2)<|.o (Qh Qss (Qhd ht6) (.cons (.of z1)<|.cons (.of z0)<|.nil))<|.o (Qar z0)<|.o (Qa z0)<|.n) fun _ a w H => ?_
 have H := H.to [4] [_] [] rfl rfl
 refine wp_ret ?_
 obtain rfl := sj h
 exact rt undef [] hpl H (.tmp z0 .nil)

/- slices.IndexFunc[[]diorama/counts.Limit,diorama/counts.Limit] -/
noncomputable def Qbv (s_ : (List Qb)) (f_ : (Qb → Option Bool)) : Option (Int) := (QI (fun (s4 : Int) => ((if (decide (s4 < (s_.length : Int))) = true then (idx s_ s4).bind fun t14 => (f_ t14).bind fun t16 => (if t16 = true then (some (.inr (.inr s4))) else (some (.inl (IntKind.i64.wrap (s4 + (1:Int)))))) else (some (.inr (.inl ())))) : Option ((Int) ⊕ ((Unit) ⊕ (Int))))) (0:Int)).bind fun (e5 : (Unit) ⊕ (Int)) => (match e5 with | .inl _ => (some (-1:Int)) | .inr p23 => (some p23))
theorem Qi0 {s_ : (List Qb)} {f_ : (Qb → Option Bool)} {r : Int} (h : Qbv s_ f_ = some r) : FnOk Tryz.prog 88 [tsl Qj s_,Qnp.ty f_] [] (fun _ => []) (fun _ => ti r) := by
 unfold Qbv at h
 refine fe Tryz.func88 Tryz.ntmps88 fun M0 M w0 a hpl H => ?_
 replace H : St M w0 19 [(0,tsl Qj s_),(1,Qnp.ty f_)] [] a w0 := H
 refine sr mx [] H (fun _ => .o (Qa .k)<|.n) fun _ a w H => ?_
 have H := H.to [1,2] [_,_] [] rfl rfl
 refine wp_seq_k (fun K2 k2 => ?_)
 refine sr mx [] H (fun _ => .q 0 rfl<|.o (QN ud31 z0)<|.o (Qw .k)<|.n) fun _ a w H => ?_
 have H := H.to [1,2,3,4] [_,_,_,_] [] rfl rfl
 have ⟨e5,he5,h⟩ := bs h
 have hJp22 : ∀ (p22 : Unit) a w,(.inl p22) = e5 → St M w0 19 [] [] a w → K2 a w := by
  intro p22 a w he H
  subst he
  simp only at h
  refine k2 _ _ ?_
  refine sr mx [] H (fun _ => .o (Qa .k)<|.n) fun _ a w H => ?_
  have H := H.to [0] [_] [] rfl rfl
  refine wp_ret ?_
  obtain rfl := sj h
  exact rt undef [] hpl H (.tmp z0 .nil)
 have hJp23 : ∀ (p23 : Int) a w,(.inr p23) = e5 → St M w0 19 [(4,ti p23)] [] a w → Ret Tryz.prog Tryz.f88 M0 [] w0 (fun _ => []) (fun _ => ti r) .ret a w := by
  intro p23 a w he H
  subst he
  simp only at h
  obtain rfl := sj h
  exact rt undef [] hpl H (.tmp z0 .nil)
 refine wp_block ?_
 refine QZ _ (fun (s4 : Int) a w => St M w0 19 [(7,ti (s_.length : Int)),(8,ti s4),(0,tsl Qj s_),(1,Qnp.ty f_)] [] a w) _ _ he5 (H.pick [0,1,2,3]) ?_
 clear h
 intro s4 o a w K25 hI h ho k25
 have H := hI
 clear hI
 refine sr mx [] H (fun _ => .o (QU z1 z0)<|.n) fun _ a w H => ?_
 have H := H.to [0,1,2,3,4] [_,_,_,_,_] [] rfl rfl
 refine wp_seq_k (fun _ k27 => ?_)
 refine wi H h (fun b33 h => ?_) (fun b33 h => ?_)
 ·refine wp_skip (k27 _ _ ?_)
  refine wp_seq_k (fun _ k28 => ?_)
  refine wp_block ?_
  refine sr mx [] H (fun _ => .q 2 rfl<|.o (Qa z0)<|.n) fun _ a w H => ?_
  have H := H.to [1,3,4,5,6] [_,_,_,_,_] [] rfl rfl
  have ⟨t14,ht14,h⟩ := bs h
  have ⟨t16,ht16,h⟩ := bs h
  refine sr mx [] H (fun _ => .q 4 rfl<|.q 4 rfl<|.q 2 rfl<|.o (QG ud31 QaE z1 z0 ht14)<|.o (Qr QaE z0)<|.o (Qb2 (u := t14) z4 (.cons (.of z0)<|.nil) ht16)<|.n) fun _ a w H => ?_
  have H := H.to [5,6,7,8,9,10] [_,_,_,_,_,_] [] rfl rfl
  refine wi H h (fun b32 h => ?_) (fun b32 h => ?_)
  ·refine sr mx [] H (fun _ => .q 1 rfl<|.o (Qa z0)<|.n) fun _ a w H => ?_
   have H := H.to [1] [_] [] rfl rfl
   refine wp_ret ?_
   exact hJp23 _ _ _ (ho _ (sj h).symm) (H.pick [0])
  refine wp_skip (k28 _ _ ?_)
  refine wr mx [] H (fun _ => .o (QV z3 .k)<|.q 0 rfl<|.n) fun _ a w H => ?_
  have H := H.to [1,4,5,6] [_,_,_,_] [] rfl rfl
  exact k25 _ _ _ (sj h).symm (H.pick [1,0,2,3])
 refine wp_exit ?_
 exact hJp22 _ _ _ (ho _ (sj h).symm) (H.pick [])

/- slices.ContainsFunc[[]diorama/counts.Limit,diorama/counts.Limit] -/
noncomputable def Qah (s_ : (List Qb)) (f_ : (Qb → Option Bool)) : Option (Bool) := (Qbv s_ f_).bind fun t7 => (some (decide (t7 ≥ (0:Int))))
theorem QeW {s_ : (List Qb)} {f_ : (Qb → Option Bool)} {r : Bool} (h : Qah s_ f_ = some r) : FnOk Tryz.prog 55 [tsl Qj s_,Qnp.ty f_] [] (fun _ => []) (fun _ => tb r) := by
 unfold Qah at h
 refine fe Tryz.func55 Tryz.ntmps55 fun M0 M w0 a hpl H => ?_
 replace H : St M w0 9 [(0,tsl Qj s_),(1,Qnp.ty f_)] [] a w0 := H
 refine sr mx [] H (fun _ => .o (Qa .k)<|.n) fun _ a w H => ?_
 have H := H.to [1,2] [_,_] [] rfl rfl
 have ⟨t7,ht7,h⟩ := bs h
 refine sr mx [] H (fun _ => .q 0 rfl<|.q 2 rfl<|.o (Qh call88 (Qi0 ht7) (.cons (.of z1)<|.cons (.of z0)<|.nil))<|.o (QaY z0 .k)<|.o (Qa z0)<|.n) fun _ a w H => ?_
 have H := H.to [4] [_] [] rfl rfl
 refine wp_ret ?_
 obtain rfl := sj h
 exact rt undef [] hpl H (.tmp z0 .nil)

/- (diorama/counts.Limit).up -/
noncomputable def Qcu (l_ : Qb) (at_ : Ql) : Option (Int × Int) := (if ((decide ((l_).B < (0:Int))) && (l_).Least) = true then (some ((l_).A,(l_).Mul)) else (if (l_).Least = true then (idx (at_).L (l_).B).bind fun t27 => (some ((l_).A,(IntKind.i64.wrap ((l_).Mul * t27)))) else (if ((decide ((l_).B ≥ (0:Int))) && (decide ((l_).Mul > (0:Int)))) = true then (idx (at_).L (l_).A).bind fun t43 => (nz (l_).Mul).bind fun _ => (some ((l_).B,(IntKind.i64.wrap (Int.tdiv (IntKind.i64.wrap ((IntKind.i64.wrap (t43 + (l_).Mul)) - (1:Int))) (l_).Mul)))) else (some ((l_).A,(0:Int))))))
theorem QlH {l_ : Qb} {at_ : Ql} {r : Int × Int} (h : Qcu l_ at_ = some r) : FnOk Tryz.prog 89 [Qj.ty l_,Qx.ty at_] [] (fun _ => []) (fun _ => ttup [ti r.1,ti r.2]) := by
 unfold Qcu at h
 refine fe Tryz.func89 Tryz.ntmps89 fun M0 M w0 a hpl H => ?_
 replace H : St M w0 54 [(0,Qj.ty l_),(1,Qx.ty at_)] [] a w0 := H
 refine sr mx [] H (fun _ => .o (QT (R := Qj) (u := l_) z0)<|.o (QT (R := Qx) (u := at_) z2)<|.o (Qa .k)<|.o (Qa .k)<|.n) fun _ a w H => ?_
 have H := H.to [0,1] [_,_] [] rfl rfl
 refine wp_seq_k (fun _ k2 => ?_)
 refine wp_block ?_
 refine sr mx [] H (fun _ => .o (Qe QeT z0)<|.o (Qf (u := (l_).B) tok3 z0 rfl)<|.o (QU z0 .k)<|.q 0 rfl<|.g rfl rfl bq0 (fun _ => Qe Ql7 z4)<|.g rfl rfl bq1 (fun hc => Qf (u := (l_).Least) tok4 (.cond z0 hc) rfl)<|.o (QY z2 (fun hp => (.cond z0 (beqT hp))))<|.o (Qa z0)<|.n) fun _ a w H => ?_
 have H := H.to [7,8,9] [_,_,_] [] rfl rfl
 refine wi H h (fun b12 h => ?_) (fun b12 h => ?_)
 ·refine sr mx [] H (fun _ => .o (Qe Qgg z1)<|.o (Qf (u := (l_).A) tok3 z0 rfl)<|.o (Qe Qgh z3)<|.o (Qf (u := (l_).Mul) tok3 z0 rfl)<|.o (Qa z2)<|.o (Qa z1)<|.n) fun _ a w H => ?_
  have H := H.to [4,5] [_,_] [] rfl rfl
  refine wp_ret ?_
  obtain rfl := sj h
  exact rt undef [] hpl H (.tmp z0 (.tmp z1 .nil))
 refine sr mx [] H (fun _ => .o (Qe Ql7 z1)<|.o (Qf (u := (l_).Least) tok4 z0 rfl)<|.o (Qa z0)<|.n) fun _ a w H => ?_
 have H := H.to [2,4,5] [_,_,_] [] rfl rfl
 refine wi H h (fun b11 h => ?_) (fun b11 h => ?_)
 ·have ⟨t27,ht27,h⟩ := bs h
  refine sr mx [] H (fun _ => .o (Qe Qgg z1)<|.o (Qf (u := (l_).A) tok3 z0 rfl)<|.o (Qe Qgh z3)<|.o (Qf (u := (l_).Mul) tok3 z0 rfl)<|.o (Qe QeT z5)<|.o (Qf (u := (l_).B) tok3 z0 rfl)<|.o (QpL (xs := (at_).L) Qhx tok3 z8 z0 rfl ht27)<|.o (Qr tok3 z0)<|.o (Qm8 z4 z0)<|.o (Qa z7)<|.o (Qa z1)<|.n) fun _ a w H => ?_
  have H := H.to [9,10] [_,_] [] rfl rfl
  refine wp_ret ?_
  obtain rfl := sj h
  exact rt undef [] hpl H (.tmp z0 (.tmp z1 .nil))
 refine sr mx [] H (fun _ => .o (Qe QeT z1)<|.o (Qf (u := (l_).B) tok3 z0 rfl)<|.o (QaY z0 .k)<|.q 0 rfl<|.g rfl rfl bq0 (fun _ => Qe Qgh z5)<|.g rfl rfl bq1 (fun hc => Qf (u := (l_).Mul) tok3 (.cond z0 hc) rfl)<|.g rfl rfl bq2 (fun hc => Qcf (.cond z0 hc) .k)<|.o (QY z3 (fun hp => (.cond z0 (beqT hp))))<|.o (Qa z0)<|.n) fun _ a w H => ?_
 have H := H.to [8,10,11] [_,_,_] [] rfl rfl
 refine wi H h (fun b10 h => ?_) (fun b10 h => ?_)
 ·refine wp_seq_k (fun _ k8 => ?_)
  have ⟨t43,ht43,h⟩ := bs h
  have ⟨u51,hu51,h⟩ := bs h
  refine wr mx [] H (fun _ => .o (Qe QeT z1)<|.o (Qf (u := (l_).B) tok3 z0 rfl)<|.o (Qe Qgg z3)<|.o (Qf (u := (l_).A) tok3 z0 rfl)<|.o (QpL (xs := (at_).L) Qhx tok3 z6 z0 rfl ht43)<|.o (Qr tok3 z0)<|.o (Qe Qgh z7)<|.o (Qf (u := (l_).Mul) tok3 z0 rfl)<|.o (QV z2 z0)<|.o (Qdc z0 .k)<|.o (Qe Qgh z11)<|.o (Qf (u := (l_).Mul) tok3 z0 rfl)<|.o (Qr8 z2 z0 (nz_ne hu51))<|.o (Qa z11)<|.o (Qa z1)<|.n) fun _ a w H => ?_
  have H := H.to [13,14] [_,_] [] rfl rfl
  refine k8 _ _ ?_
  refine wp_ret ?_
  obtain rfl := sj h
  exact rt undef [] hpl H (.tmp z0 (.tmp z1 .nil))
 refine wp_skip (k2 _ _ ?_)
 refine sr mx [] H (fun _ => .o (Qe Qgg z1)<|.o (Qf (u := (l_).A) tok3 z0 rfl)<|.o (Qa z0)<|.o (Qa .k)<|.n) fun _ a w H => ?_
 have H := H.to [2,3] [_,_] [] rfl rfl
 refine wp_ret ?_
 obtain rfl := sj h
 exact rt undef [] hpl H (.tmp z0 (.tmp z1 .nil))

/- (diorama/counts.Limit).holds -/
noncomputable def Qbi (l_ : Qb) (counts_ : (List Int)) : Option (Bool) := (if (l_).Least = true then (idx counts_ (l_).A).bind fun t10 => (QaF l_ counts_).bind fun t14 => (some (decide (t10 ≥ t14))) else (idx counts_ (l_).A).bind fun t19 => (QaF l_ counts_).bind fun t23 => (some (decide (t19 ≤ t23))))
theorem Qhe {l_ : Qb} {counts_ : (List Int)} {r : Bool} (h : Qbi l_ counts_ = some r) : FnOk Tryz.prog 46 [Qj.ty l_,tsl rI counts_] [] (fun _ => []) (fun _ => tb r) := by
 unfold Qbi at h
 refine fe Tryz.func46 Tryz.ntmps46 fun M0 M w0 a hpl H => ?_
 replace H : St M w0 25 [(0,Qj.ty l_),(1,tsl rI counts_)] [] a w0 := H
 refine sr mx [] H (fun _ => .o (QT (R := Qj) (u := l_) z0)<|.o (Qa .k)<|.n) fun _ a w H => ?_
 have H := H.to [0,3] [_,_] [] rfl rfl
 refine wp_seq_k (fun _ k2 => ?_)
 refine sr mx [] H (fun _ => .o (Qe Ql7 z0)<|.o (Qf (u := (l_).Least) tok4 z0 rfl)<|.n) fun _ a w H => ?_
 have H := H.to [1,2,3] [_,_,_] [] rfl rfl
 refine wi H h (fun b6 h => ?_) (fun b6 h => ?_)
 ·have ⟨t10,ht10,h⟩ := bs h
  have ⟨t14,ht14,h⟩ := bs h
  refine sr mx [] H (fun _ => .q 2 rfl<|.o (Qe Qgg z2)<|.o (Qf (u := (l_).A) tok3 z0 rfl)<|.o (QG ud22 tok3 z2 z0 ht10)<|.o (Qr tok3 z0)<|.o (Qr QaE z6)<|.q 8 rfl<|.o (Qh Qp4 (QeV ht14) (.cons (.of z1)<|.cons (.of z0)<|.nil))<|.o (QaY z3 z0)<|.o (Qa z0)<|.n) fun _ a w H => ?_
  have H := H.to [9] [_] [] rfl rfl
  refine wp_ret ?_
  obtain rfl := sj h
  exact rt undef [] hpl H (.tmp z0 .nil)
 refine wp_skip (k2 _ _ ?_)
 have ⟨t19,ht19,h⟩ := bs h
 have ⟨t23,ht23,h⟩ := bs h
 refine sr mx [] H (fun _ => .q 2 rfl<|.o (Qe Qgg z2)<|.o (Qf (u := (l_).A) tok3 z0 rfl)<|.o (QG ud22 tok3 z2 z0 ht19)<|.o (Qr tok3 z0)<|.o (Qr QaE z6)<|.q 8 rfl<|.o (Qh Qp4 (QeV ht23) (.cons (.of z1)<|.cons (.of z0)<|.nil))<|.o (Qd5 z3 z0)<|.o (Qa z0)<|.n) fun _ a w H => ?_
 have H := H.to [9] [_] [] rfl rfl
 refine wp_ret ?_
 obtain rfl := sj h
 exact rt undef [] hpl H (.tmp z0 .nil)

/- (diorama/counts.numbers).broken -/
noncomputable def QaP (at_ : Ql) (l_ : Qb) : Option (Bool) := (Qbi l_ (at_).L).bind fun t7 => (some (!t7))
theorem Qjs {at_ : Ql} {l_ : Qb} {r : Bool} (h : QaP at_ l_ = some r) : FnOk Tryz.prog 90 [Qx.ty at_,Qj.ty l_] [] (fun _ => []) (fun _ => tb r) := by
 unfold QaP at h
 refine fe Tryz.func90 Tryz.ntmps90 fun M0 M w0 a hpl H => ?_
 replace H : St M w0 9 [(0,Qx.ty at_),(1,Qj.ty l_)] [] a w0 := H
 refine sr mx [] H (fun _ => .o (QT (R := Qx) (u := at_) z0)<|.o (QT (R := Qj) (u := l_) z2)<|.o (Qa .k)<|.n) fun _ a w H => ?_
 have H := H.to [0,1] [_,_] [] rfl rfl
 have ⟨t7,ht7,h⟩ := bs h
 refine sr mx [] H (fun _ => .o (Qr QaE z1)<|.o (Qnm (L := (at_).L) Qhx tok3 z1 rfl (by decide) rfl)<|.o (Qh Qsv (Qhe ht7) (.cons (.of z1)<|.cons (.of z0)<|.nil))<|.o (Qar z0)<|.o (Qa z0)<|.n) fun _ a w H => ?_
 have H := H.to [4] [_] [] rfl rfl
 refine wp_ret ?_
 obtain rfl := sj h
 exact rt undef [] hpl H (.tmp z0 .nil)

/- diorama/counts.kept -/
noncomputable def Qci (l_ : (List Qb)) : Option (Bool) := (QI (fun (s6 : Bool × Ql) => ((if s6.1 = true then (QI (fun (s126 : Int × Bool × Ql) => ((if (decide (s126.1 < (l_.length : Int))) = true then (idx l_ s126.1).bind fun t14 => (Qcu t14 s126.2.2).bind fun t19 => (if (decide (t19.2 > (65536:Int))) = true then (some (.inr (.inr false))) else (idx (s126.2.2).L t19.1).bind fun t26 => ((if (decide (t19.2 > t26)) = true then (idx (s126.2.2).L t19.1).bind fun t31 => (some (true,((s126.2.2).setI t19.1 t19.2))) else (some (s126.2.1,s126.2.2)))).bind fun (p171 : Bool × Ql) => (some (.inl ((IntKind.i64.wrap (s126.1 + (1:Int))),p171.1,p171.2)))) else (some (.inr (.inl (s126.2.1,s126.2.2))))) : Option ((Int × Bool × Ql) ⊕ ((Bool × Ql) ⊕ (Bool))))) ((0:Int),false,s6.2)).bind fun (e127 : (Bool × Ql) ⊕ (Bool)) => (match e127 with | .inl p158 => (some (.inl (p158.1,p158.2))) | .inr p159 => (some (.inr (.inr p159)))) else (some (.inr (.inl s6.2)))) : Option ((Bool × Ql) ⊕ ((Ql) ⊕ (Bool))))) (true,zz6)).bind fun (e7 : (Ql) ⊕ (Bool)) => (match e7 with | .inl p118 => (Qah l_ (fun x0 => QaP p118 x0)).bind fun t36 => (some (!t36)) | .inr p119 => (some p119))
theorem Qia {l_ : (List Qb)} {r : Bool} (h : Qci l_ = some r) : FnOk Tryz.prog 57 [tsl Qj l_] [] (fun _ => []) (fun _ => tb r) := by
 unfold Qci at h
 refine fe Tryz.func57 Tryz.ntmps57 fun M0 M w0 a hpl H => ?_
 replace H : St M w0 38 [(0,tsl Qj l_)] [] a w0 := H
 refine sr mx [] H (fun _ => .o (Qa .k)<|.n) fun _ a w H => ?_
 have H := H.to [1] [_] [] rfl rfl
 refine sr mx [v1 0 (fun v0 => box (Qx.cs zz6) v0)] H (fun _ => .m [] [0] rfl rfl rfl (Q1 (R := Qx) (a := zz6) Qho zok103)<|.n) fun n1 a w H => ?_
 have H := H.to [0,1] [_,_] [_] rfl rfl
 refine wp_seq_k (fun K4 k4 => ?_)
 refine sr mx [] H (fun _ => .o (Qa .k)<|.n) fun _ a w H => ?_
 have H := H.to [0,1,2] [_,_,_] [_] rfl rfl
 have ⟨e7,he7,h⟩ := bs h
 have hJp118 : ∀ (p118 : Ql) a w,(.inl p118) = e7 → St M w0 38 [(3,tv (n1 0)),(0,tsl Qj l_)] [box (Qx.cs p118) (n1 0)] a w → K4 a w := by
  intro p118 a w he H
  subst he
  simp only at h
  refine k4 _ _ ?_
  have ⟨t36,ht36,h⟩ := bs h
  refine sr mx [] H (fun _ => .q 1 rfl<|.u [0] rfl rfl (Qdy (R := Qx) (u := p118) Qho z1 rfl)<|.o (QuQ (.cons z0<|.nil))<|.o (Qh Qsx (QeW ht36) (.cons (.of z2)<|.cons (.of (Fct.weak z0 (tfn_bm call90 (fun _ _ hq => Qjs hq))))<|.nil))<|.o (Qar z0)<|.o (Qa z0)<|.n) fun _ a w H => ?_
  replace H : St _ _ _ [_] [] _ _ := (H.pick [5]).selA [] rfl
  refine wp_ret ?_
  obtain rfl := sj h
  exact rt undef [] hpl H (.tmp z0 .nil)
 have hJp119 : ∀ (p119 : Bool) a w,(.inr p119) = e7 → St M w0 38 [(2,tb p119)] [] a w → Ret Tryz.prog Tryz.f57 M0 [] w0 (fun _ => []) (fun _ => tb r) .ret a w := by
  intro p119 a w he H
  subst he
  simp only at h
  obtain rfl := sj h
  exact rt undef [] hpl H (.tmp z0 .nil)
 refine wp_block ?_
 refine QZ _ (fun (s6 : Bool × Ql) a w => St M w0 38 [(4,tb s6.1),(3,tv (n1 0)),(0,tsl Qj l_)] [box (Qx.cs s6.2) (n1 0)] a w) _ _ he7 (H.pick [0,1,2]) ?_
 clear h
 intro s6 o a w K121 hI h ho k121
 have H := hI
 clear hI
 refine wp_seq_k (fun _ k122 => ?_)
 refine sr mx [] H (fun _ => .q 0 rfl<|.n) fun _ a w H => ?_
 have H := H.to [0,2,3] [_,_,_] [_] rfl rfl
 refine wi H h (fun b176 h => ?_) (fun b176 h => ?_)
 ·refine wp_skip (k122 _ _ ?_)
  refine wp_block ?_
  refine sr mx [] H (fun _ => .o (Qa .k)<|.n) fun _ a w H => ?_
  have H := H.to [0,2,3] [_,_,_] [_] rfl rfl
  refine sr mx [] H (fun _ => .q 2 rfl<|.o (QN ud31 z0)<|.o (Qw .k)<|.n) fun _ a w H => ?_
  have H := H.to [0,1,2,3,4,5] [_,_,_,_,_,_] [_] rfl rfl
  have ⟨e127,he127,h⟩ := bs h
  have hJp158 : ∀ (p158 : Bool × Ql) a w,(.inl p158) = e127 → St M w0 38 [(4,tb p158.1),(3,tv (n1 0)),(0,tsl Qj l_)] [box (Qx.cs p158.2) (n1 0)] a w → K121 a w := by
   intro p158 a w he H
   subst he
   simp only at h
   exact k121 _ _ _ (sj h).symm (H.pick [0,1,2])
  have hJp159 : ∀ (p159 : Bool) a w,(.inr p159) = e127 → St M w0 38 [(2,tb p159)] [] a w → Ret Tryz.prog Tryz.f57 M0 [] w0 (fun _ => []) (fun _ => tb r) .ret a w := by
   intro p159 a w he H
   subst he
   simp only at h
   exact hJp119 _ _ _ (ho _ (sj h).symm) (H.pick [0])
  refine wp_block ?_
  refine QZ _ (fun (s126 : Int × Bool × Ql) a w => St M w0 38 [(10,tsl Qj l_),(11,ti (l_.length : Int)),(12,ti s126.1),(4,tb s126.2.1),(3,tv (n1 0)),(0,tsl Qj l_)] [box (Qx.cs s126.2.2) (n1 0)] a w) _ _ he127 (H.pick [0,1,2,3,4,5]) ?_
  clear h
  intro s126 o a w K160 hI h ho k160
  have H := hI
  clear hI
  refine sr mx [] H (fun _ => .o (QU z2 z1)<|.n) fun _ a w H => ?_
  have H := H.to [0,1,2,3,4,5,6] [_,_,_,_,_,_,_] [_] rfl rfl
  refine wp_seq_k (fun _ k162 => ?_)
  refine wi H h (fun b175 h => ?_) (fun b175 h => ?_)
  ·refine wp_skip (k162 _ _ ?_)
   refine wp_seq_k (fun K163 k163 => ?_)
   refine wp_block ?_
   have ⟨t14,ht14,h⟩ := bs h
   refine sr mx [v1 2 (fun v0 => box (Qj.cs zz5) v0),v1 2 (fun v0 => box (Qj.cs t14) v0)] H (fun _ => .o (QG ud31 QaE z1 z3 ht14)<|.o (Qr QaE z0)<|.m [] [1] rfl rfl rfl (Q1 (R := Qj) (a := zz5) QaE QrF)<|.e [] [1] [2] rfl rfl rfl rfl (QR (R := Qj) (a := t14) QaE z0 z1 (leb rfl))<|.n) fun _ a w H => ?_
   replace H : St _ _ _ [_,_,_,_,_,_,_] [_] _ _ := ((((H.pick [2,4,5,6,7,8,9]).selA [1,0] rfl).shareB 0 rfl).add 0 rfl (fun _ _ _ h => h.2)).pick [0,3,4,5,6,7,8]
   have ⟨t19,ht19,h⟩ := bs h
   refine sr mx [] H (fun _ => .o (Qr QaE z0)<|.u [0] rfl rfl (Qdy (R := Qx) (u := s126.2.2) Qho z6 rfl)<|.o (Qh call89 (QlH ht19) (.cons (.of z1)<|.cons (.of z0)<|.nil))<|.q 0 rfl<|.o (QM z0 rfl)<|.o (QM z1 rfl)<|.o (Qa z1)<|.o (Qa z1)<|.n) fun _ a w H => ?_
   have H := H.to [6,7,9,10,11,12,13,14] [_,_,_,_,_,_,_,_] [_] rfl rfl
   refine wp_seq_k (fun _ k167 => ?_)
   refine sr mx [] H (fun _ => .q 1 rfl<|.o (Qcf z0 .k)<|.n) fun _ a w H => ?_
   have H := H.to [1,2,3,4,5,6,7,8,9] [_,_,_,_,_,_,_,_,_] [_] rfl rfl
   refine wi H h (fun b174 h => ?_) (fun b174 h => ?_)
   ·refine sr mx [] H (fun _ => .o (Qa .k)<|.n) fun _ a w H => ?_
    replace H : St _ _ _ [_] [] _ _ := (H.pick [0]).selA [] rfl
    refine wp_ret ?_
    exact hJp159 _ _ _ (ho _ (sj h).symm) (H.pick [0])
   refine wp_skip (k167 _ _ ?_)
   have ⟨t26,ht26,h⟩ := bs h
   refine sr mx [] H (fun _ => .q 2 rfl<|.q 2 rfl<|.u [0] rfl rfl (Qnl (L := (s126.2.2).L) Qhx tok3 rfl z9 z0 rfl ht26)<|.u [0] rfl rfl (Qsg (o := 0) (L := (s126.2.2).L) tok3 rfl z0 rfl ht26)<|.o (Qcf z3 z0)<|.n) fun _ a w H => ?_
   have H := H.to [4,6,7,8,9,10,11,12,13] [_,_,_,_,_,_,_,_,_] [_] rfl rfl
   have ⟨p171,hp171,h⟩ := bs h
   have hJp171 : ∀ a w,St M w0 38 [(4,tb p171.1),(10,tsl Qj l_),(11,ti (l_.length : Int)),(12,ti s126.1),(3,tv (n1 0)),(0,tsl Qj l_)] [box (Qx.cs p171.2) (n1 0)] a w → K163 a w := by
    intro a w H
    refine k163 _ _ ?_
    refine wr mx [] H (fun _ => .o (QV z3 .k)<|.q 0 rfl<|.n) fun _ a w H => ?_
    have H := H.to [1,2,3,4,5,6] [_,_,_,_,_,_] [_] rfl rfl
    exact k160 _ _ _ (sj h).symm (H.pick [2,3,0,1,4,5])
   replace h := hp171
   clear hp171
   refine wi H h (fun b173 h => ?_) (fun b173 h => ?_)
   ·have ⟨t31,ht31,h⟩ := bs h
    refine wr mx [v0 (box (Qx.cs ((s126.2.2).setI t19.1 t19.2)) (n1 0))] H (fun _ => .q 1 rfl<|.q 3 rfl<|.u [0] rfl rfl (Qnl (L := (s126.2.2).L) Qhx tok3 rfl z9 z1 rfl ht31)<|.e [] [0] [1] rfl rfl rfl rfl (QkK (a := t19.2) (Ts := (Qx.cs s126.2.2)) (o := 0) (L := (s126.2.2).L) tok3 rfl z0 z1 ht31 (leb rfl) (Ql.spl (pre := List.take 0 (Qx.cs s126.2.2)) (post := List.drop 6 (Qx.cs s126.2.2)) rfl ht31))<|.o (Qa .k)<|.n) fun _ a w H => ?_
    have H := H.to [3,7,8,9,10,11] [_,_,_,_,_,_] [_] rfl rfl
    obtain rfl := sj h
    exact hJp171 _ _ (H.pick [0,1,2,3,4,5])
   refine wp_skip ?_
   obtain rfl := sj h
   exact hJp171 _ _ (H.pick [6,3,4,5,7,8])
  refine wp_exit ?_
  exact hJp158 _ _ _ (ho _ (sj h).symm) (H.pick [4,5,6])
 refine wp_exit ?_
 exact hJp118 _ _ _ (ho _ (sj h).symm) (H.pick [1,2])

/- math/bits.TrailingZeros32 -/
/- math/bits.TrailingZeros64 -/
noncomputable def QbL (x_ : Int) : Option (Int) := (if (x_ == (0:Int)) = true then (some (64:Int)) else (idx Ql6 (ishr .u64 (IntKind.u64.wrap ((iand .u64 x_ (IntKind.u64.wrap (0 - x_))) * (285870213051353865:Int))) (58:Int))).bind fun t11 => (some (IntKind.i64.wrap t11)))
theorem QjJ {x_ : Int} {r : Int} (h : QbL x_ = some r) : FnOk Tryz.prog 93 [tv (.int .u64 x_)] [glo] (fun _ => []) (fun _ => ti r) := by
 unfold QbL at h
 refine fe Tryz.func93 Tryz.ntmps93 fun M0 M w0 a hpl H => ?_
 replace H : St M w0 14 [(0,tv (.int .u64 x_))] [glo] a w0 := H
 refine sr mx [] H (fun _ => .o (Qa .k)<|.n) fun _ a w H => ?_
 have H := H.to [1] [_] [_] rfl rfl
 refine wp_seq_k (fun _ k2 => ?_)
 refine sr mx [] H (fun _ => .q 0 rfl<|.o (Q4 z0 .k)<|.n) fun _ a w H => ?_
 have H := H.to [1,2] [_,_] [_] rfl rfl
 refine wi H h (fun b6 h => ?_) (fun b6 h => ?_)
 ·refine sr mx [] H (fun _ => .o (Qa .k)<|.n) fun _ a w H => ?_
  have H := H.to [0] [_] [_] rfl rfl
  refine wp_ret ?_
  obtain rfl := sj h
  exact rt undef [] hpl H (.tmp z0 .nil)
 refine wp_skip (k2 _ _ ?_)
 have ⟨t11,ht11,h⟩ := bs h
 refine sr mx [] H (fun _ => .q 1 rfl<|.q 2 rfl<|.o (Qr9 z0)<|.o (Qn3 z2 z0)<|.o (Qm8 z0 .k)<|.o (Qn4 z0 .k (by decide))<|.u [0] rfl rfl (QpM Tryz.underlying177 tok5 QtO rfl z0 rfl ht11)<|.o (Qr tok5 z0)<|.o (QuF Tryz.underlying5 ud3 z0)<|.o (Qa z0)<|.n) fun _ a w H => ?_
 have H := H.to [9] [_] [_] rfl rfl
 refine wp_ret ?_
 obtain rfl := sj h
 exact rt undef [] hpl H (.tmp z0 .nil)

/- math/bits.TrailingZeros -/
noncomputable def QaW (x_ : Int) : Option (Int) := (QbL x_).bind fun t7 => (some t7)
theorem Qhf {x_ : Int} {r : Int} (h : QaW x_ = some r) : FnOk Tryz.prog 59 [tv (.int .u64 x_)] [glo] (fun _ => []) (fun _ => ti r) := by
 unfold QaW at h
 refine fe Tryz.func59 Tryz.ntmps59 fun M0 M w0 a hpl H => ?_
 replace H : St M w0 8 [(0,tv (.int .u64 x_))] [glo] a w0 := H
 refine sr mx [] H (fun _ => .o (Qa .k)<|.n) fun _ a w H => ?_
 have H := H.to [1] [_] [_] rfl rfl
 refine wp_seq_k (fun _ k2 => ?_)
 refine Qsd ?_
 refine wp_skip (k2 _ _ ?_)
 have ⟨t7,ht7,h⟩ := bs h
 refine sr mx [] H (fun _ => .q 0 rfl<|.u [0] rfl rfl ((Qh call93 (QjJ ht7) (.cons (.of z0)<|.nil)).glo)<|.o (Qa z0)<|.n) fun _ a w H => ?_
 have H := H.to [2] [_] [_] rfl rfl
 refine wp_ret ?_
 obtain rfl := sj h
 exact rt undef [] hpl H (.tmp z0 .nil)

/- diorama/counts.some -/
noncomputable def Qdi (l_ : (List Qb)) (set_ : Int) : Option ((List Qb)) := (QI (fun (s6 : Int × List Qb) => ((if (s6.1 != (0:Int)) = true then (QaW s6.1).bind fun t17 => (idx l_ t17).bind fun t18 => (rm (s6.2.length + [t18].length)).bind fun _ => (some (.inl ((iand .u64 s6.1 (IntKind.u64.wrap (s6.1 - (1:Int)))),(s6.2 ++ [t18])))) else (some (.inr s6.2))) : Option ((Int × List Qb) ⊕ ((List Qb))))) (set_,([] : List Qb))).bind fun (p17 : (List Qb)) => (some p17)
theorem Qkj {l_ : (List Qb)} {set_ : Int} {r : (List Qb)} (h : Qdi l_ set_ = some r) : FnOk Tryz.prog 91 [tsl Qj l_,tv (.int .u64 set_)] [glo] (fun _ => []) (fun _ => tsl Qj r) := by
 unfold Qdi at h
 refine fe Tryz.func91 Tryz.ntmps91 fun M0 M w0 a hpl H => ?_
 replace H : St M w0 23 [(0,tsl Qj l_),(1,tv (.int .u64 set_))] [glo] a w0 := H
 refine sr mx [] H (fun _ => .o (Qa (.nilsl (R := Qj)))<|.n) fun _ a w H => ?_
 have H := H.to [1,2] [_,_] [_] rfl rfl
 refine sr mx [] H (fun _ => .o (Qa .k)<|.n) fun _ a w H => ?_
 replace H : St _ _ _ [_,_,_] [_,_] _ _ := (H.pick [0,1,2]).nil (Qj) 43
 refine wp_seq_k (fun K4 k4 => ?_)
 refine sr mx [] H (fun _ => .q 2 rfl<|.o (Qa z0)<|.n) fun _ a w H => ?_
 have H := H.to [1,2,3] [_,_,_] [_,_] rfl rfl
 have ⟨e7,he7,h⟩ := bs h
 have hJp17 : ∀ (p17 : List Qb) (v18 : Value) a w,p17 = e7 → St M w0 23 [(5,tv v18)] [own Qj 43 p17 v18,glo] a w → K4 a w := by
  intro p17 v18 a w he H
  subst he
  refine k4 _ _ ?_
  refine sr mx [] H (fun _ => .q 0 rfl<|.o (Qa z0)<|.n) fun _ a w H => ?_
  have H := H.to [0,1,2] [_,_,_] [_,_] rfl rfl
  refine wp_ret ?_
  replace H : St _ _ _ [_] [_] _ _ := (H.shareO 1 rfl).pick [0]
  obtain rfl := sj h
  exact rt undef [] hpl H (.tmp z0 .nil)
 refine wp_block ?_
 refine QZ _ (fun (s6 : Int × List Qb) a w => ∃ v12 : Value,St M w0 23 [(6,tv (.int .u64 s6.1)),(5,tv v12),(0,tsl Qj l_)] [own Qj 43 s6.2 v12,glo] a w) _ _ he7 ⟨(.slice none 0 0),H.pick [0,1,2]⟩ ?_
 clear h
 intro s6 o a w K20 hI h ho k20
 obtain ⟨v12,H⟩ := hI
 refine wp_seq_k (fun _ k21 => ?_)
 refine sr mx [] H (fun _ => .q 0 rfl<|.o (Qam z0 .k)<|.n) fun _ a w H => ?_
 have H := H.to [1,2,3,4] [_,_,_,_] [_,_] rfl rfl
 refine wi H h (fun b24 h => ?_) (fun b24 h => ?_)
 ·refine wp_skip (k21 _ _ ?_)
  refine wp_seq_k (fun _ k23 => ?_)
  refine wp_block ?_
  have ⟨t17,ht17,h⟩ := bs h
  have ⟨t18,ht18,h⟩ := bs h
  have ⟨u21,hu21,h⟩ := bs h
  refine wr mx [v1 7 (fun v0 => own Qj 43 (s6.2 ++ [t18]) v0)] H (fun _ => .q 2 rfl<|.q 4 rfl<|.q 3 rfl<|.u [1] rfl rfl ((Qh Qsz (Qhf ht17) (.cons (.of z0)<|.nil)).glo)<|.o (QG ud31 QaE z2 z0 ht18)<|.o (Qr QaE z0)<|.o (QE (R := Qj) (us := [t18]) ud31 QaE (.cons z0<|.nil _) rfl (leb rfl))<|.e [] [0] [2] rfl rfl rfl rfl (Qaf (R := Qj) ud31 QaE (leb rfl) z6 z0 hu21)<|.ud (f := fun v => tv v) 7 rfl [] rfl rfl (Qa z0)<|.n) fun n5 a w H => ?_
  have H := H.to [7,8,10,11] [_,_,_,_] [_,_] rfl rfl
  refine k23 _ _ ?_
  refine wr mx [] H (fun _ => .q 2 rfl<|.q 3 rfl<|.o (Qdc z0 .k)<|.o (Qn3 z2 z0)<|.o (Qa z0)<|.n) fun _ a w H => ?_
  have H := H.to [4,5,6,7] [_,_,_,_] [_,_] rfl rfl
  exact k20 _ _ _ (sj h).symm ⟨(n5 7),(H.pick [0,2,3]).selA [1,0] rfl⟩
 refine wp_exit ?_
 exact hJp17 _ v12 _ _ (ho _ (sj h).symm) (H.pick [2])

/- diorama/counts.smallest -/
noncomputable def Qb7 (self : (List Qb) → Int → Int → Int → Option (Int)) (l_ : (List Qb)) (set_ : Int) (from_ : Int) (many_ : Int) : Option (Int) := (nn (IntKind.i64.wrap ((64:Int) - (l_.length : Int)))).bind fun _ => (nn from_).bind fun _ => (nn from_).bind fun _ => (Qdi l_ (ior .u64 set_ (ishl .u64 (ishr .u64 (ishr .u64 (18446744073709551615:Int) (IntKind.i64.wrap ((64:Int) - (l_.length : Int)))) from_) from_))).bind fun t24 => (Qci t24).bind fun t25 => (if t25 = true then (some (0:Int)) else (if (many_ == (0:Int)) = true then (Qdi l_ set_).bind fun t30 => (Qci t30).bind fun t31 => (if t31 = true then (some (0:Int)) else (some set_)) else (QI (fun (s15 : Int) => ((if (decide ((IntKind.i64.wrap (s15 + many_)) ≤ (l_.length : Int))) = true then (nn s15).bind fun _ => (self l_ (ior .u64 set_ (ishl .u64 (1:Int) s15)) (IntKind.i64.wrap (s15 + (1:Int))) (IntKind.i64.wrap (many_ - (1:Int)))).bind fun t51 => (if (t51 != (0:Int)) = true then (some (.inr (.inr t51))) else (some (.inl (IntKind.i64.wrap (s15 + (1:Int)))))) else (some (.inr (.inl ())))) : Option ((Int) ⊕ ((Unit) ⊕ (Int))))) from_).bind fun (e16 : (Unit) ⊕ (Int)) => (match e16 with | .inl _ => (some (0:Int)) | .inr p34 => (some p34))))
theorem Qlf {self : (List Qb) → Int → Int → Int → Option (Int)} (hself : ∀ (l_ : (List Qb)) (set_ : Int) (from_ : Int) (many_ : Int) (r : Int),self l_ set_ from_ many_ = some r → FnOk Tryz.prog 58 [tsl Qj l_,tv (.int .u64 set_),ti from_,ti many_] [glo] (fun _ => []) (fun _ => tv (.int .u64 r))) {l_ : (List Qb)} {set_ : Int} {from_ : Int} {many_ : Int} {r : Int} (h : Qb7 self l_ set_ from_ many_ = some r) : FnOk Tryz.prog 58 [tsl Qj l_,tv (.int .u64 set_),ti from_,ti many_] [glo] (fun _ => []) (fun _ => tv (.int .u64 r)) := by
 unfold Qb7 at h
 refine fe Tryz.func58 Tryz.ntmps58 fun M0 M w0 a hpl H => ?_
 replace H : St M w0 55 [(0,tsl Qj l_),(1,tv (.int .u64 set_)),(2,ti from_),(3,ti many_)] [glo] a w0 := H
 refine sr mx [] H (fun _ => .o (Qa .k)<|.n) fun _ a w H => ?_
 have H := H.to [1,2,3,4] [_,_,_,_] [_] rfl rfl
 refine wp_seq_k (fun _ k2 => ?_)
 have ⟨u15,hu15,h⟩ := bs h
 have ⟨u17,hu17,h⟩ := bs h
 have ⟨u19,hu19,h⟩ := bs h
 refine wr mx [] H (fun _ => .q 0 rfl<|.o (QN ud31 z0)<|.o (Qdc .k z0)<|.o (Qn4 .k z0 (Qpn hu15))<|.q 6 rfl<|.o (Qn4 z1 z0 (Qpn hu17))<|.q 8 rfl<|.o (QqV z1 z0 (Qpn hu19))<|.o (Qa z0)<|.n) fun _ a w H => ?_
 have H := H.to [8,9,10,11,12] [_,_,_,_,_] [_] rfl rfl
 refine k2 _ _ ?_
 refine wp_seq_k (fun _ k3 => ?_)
 have ⟨t24,ht24,h⟩ := bs h
 have ⟨t25,ht25,h⟩ := bs h
 refine sr mx [] H (fun _ => .q 1 rfl<|.q 3 rfl<|.q 2 rfl<|.o (Qsc z1 z0)<|.u [0] rfl rfl ((Qh QsC (Qkj ht24) (.cons (.of z3)<|.cons (.of z0)<|.nil)).glo)<|.o (Qh Qp2 (Qia ht25) (.cons (.of z0)<|.nil))<|.n) fun _ a w H => ?_
 have H := H.to [5,7,8,9,10] [_,_,_,_,_] [_] rfl rfl
 refine wi H h (fun b46 h => ?_) (fun b46 h => ?_)
 ·refine sr mx [] H (fun _ => .o (Qa .k)<|.n) fun _ a w H => ?_
  have H := H.to [0] [_] [_] rfl rfl
  refine wp_ret ?_
  obtain rfl := sj h
  exact rt undef [] hpl H (.tmp z0 .nil)
 refine wp_skip (k3 _ _ ?_)
 refine wp_seq_k (fun _ k6 => ?_)
 refine sr mx [] H (fun _ => .q 4 rfl<|.o (Q4 z0 .k)<|.n) fun _ a w H => ?_
 have H := H.to [1,3,4,5,6] [_,_,_,_,_] [_] rfl rfl
 refine wi H h (fun b45 h => ?_) (fun b45 h => ?_)
 ·refine wp_seq_k (fun _ k8 => ?_)
  have ⟨t30,ht30,h⟩ := bs h
  have ⟨t31,ht31,h⟩ := bs h
  refine sr mx [] H (fun _ => .q 1 rfl<|.q 3 rfl<|.u [0] rfl rfl ((Qh QsC (Qkj ht30) (.cons (.of z1)<|.cons (.of z0)<|.nil)).glo)<|.o (Qh Qp2 (Qia ht31) (.cons (.of z0)<|.nil))<|.n) fun _ a w H => ?_
  have H := H.to [3,6] [_,_] [_] rfl rfl
  refine wi H h (fun b12 h => ?_) (fun b12 h => ?_)
  ·refine sr mx [] H (fun _ => .o (Qa .k)<|.n) fun _ a w H => ?_
   have H := H.to [0] [_] [_] rfl rfl
   refine wp_ret ?_
   obtain rfl := sj h
   exact rt undef [] hpl H (.tmp z0 .nil)
  refine wp_skip (k8 _ _ ?_)
  refine sr mx [] H (fun _ => .q 1 rfl<|.o (Qa z0)<|.n) fun _ a w H => ?_
  have H := H.to [1] [_] [_] rfl rfl
  refine wp_ret ?_
  obtain rfl := sj h
  exact rt undef [] hpl H (.tmp z0 .nil)
 refine wp_skip (k6 _ _ ?_)
 refine wp_seq_k (fun K13 k13 => ?_)
 refine sr mx [] H (fun _ => .q 3 rfl<|.o (Qa z0)<|.n) fun _ a w H => ?_
 have H := H.to [1,3,4,6] [_,_,_,_] [_] rfl rfl
 have ⟨e16,he16,h⟩ := bs h
 have hJp33 : ∀ (p33 : Unit) a w,(.inl p33) = e16 → St M w0 55 [] [glo] a w → K13 a w := by
  intro p33 a w he H
  subst he
  simp only at h
  refine k13 _ _ ?_
  refine sr mx [] H (fun _ => .o (Qa .k)<|.n) fun _ a w H => ?_
  have H := H.to [0] [_] [_] rfl rfl
  refine wp_ret ?_
  obtain rfl := sj h
  exact rt undef [] hpl H (.tmp z0 .nil)
 have hJp34 : ∀ (p34 : Int) a w,(.inr p34) = e16 → St M w0 55 [(8,tv (.int .u64 p34))] [glo] a w → Ret Tryz.prog Tryz.f58 M0 [glo] w0 (fun _ => []) (fun _ => tv (.int .u64 r)) .ret a w := by
  intro p34 a w he H
  subst he
  simp only at h
  obtain rfl := sj h
  exact rt undef [] hpl H (.tmp z0 .nil)
 refine wp_block ?_
 refine QZ _ (fun (s15 : Int) a w => St M w0 55 [(10,ti s15),(0,tsl Qj l_),(1,tv (.int .u64 set_)),(3,ti many_)] [glo] a w) _ _ he16 (H.pick [0,1,2,3]) ?_
 clear h
 intro s15 o a w K36 hI h ho k36
 have H := hI
 clear hI
 refine wp_seq_k (fun _ k37 => ?_)
 refine sr mx [] H (fun _ => .q 0 rfl<|.q 4 rfl<|.o (QV z1 z0)<|.q 4 rfl<|.o (QN ud31 z0)<|.o (Qd5 z2 z0)<|.n) fun _ a w H => ?_
 have H := H.to [5,6,7,8,9] [_,_,_,_,_] [_] rfl rfl
 refine wi H h (fun b44 h => ?_) (fun b44 h => ?_)
 ·refine wp_skip (k37 _ _ ?_)
  refine wp_seq_k (fun _ k39 => ?_)
  refine wp_block ?_
  refine wp_seq_k (fun _ k40 => ?_)
  have ⟨u45,hu45,h⟩ := bs h
  have ⟨t51,ht51,h⟩ := bs h
  refine wr mx [] H (fun _ => .q 2 rfl<|.q 4 rfl<|.q 3 rfl<|.o (QqV .k z0 (Qpn hu45))<|.o (Qsc z2 z0)<|.q 6 rfl<|.o (QV z0 .k)<|.q 11 rfl<|.o (Qdc z0 .k)<|.u [0] rfl rfl ((Qh Qsy (hself _ _ _ _ _ ht51) (.cons (.of z8)<|.cons (.of z4)<|.cons (.of z2)<|.cons (.of z0)<|.nil)).glo)<|.o (Qa z0)<|.n) fun _ a w H => ?_
  have H := H.to [10,12,13,14,15] [_,_,_,_,_] [_] rfl rfl
  refine k40 _ _ ?_
  refine sr mx [] H (fun _ => .q 0 rfl<|.o (Qam z0 .k)<|.n) fun _ a w H => ?_
  have H := H.to [1,2,3,4,5,6] [_,_,_,_,_,_] [_] rfl rfl
  refine wi H h (fun b43 h => ?_) (fun b43 h => ?_)
  ·refine sr mx [] H (fun _ => .q 1 rfl<|.o (Qa z0)<|.n) fun _ a w H => ?_
   have H := H.to [1] [_] [_] rfl rfl
   refine wp_ret ?_
   exact hJp34 _ _ _ (ho _ (sj h).symm) (H.pick [0])
  refine wp_skip (k39 _ _ ?_)
  refine wr mx [] H (fun _ => .q 2 rfl<|.o (QV z0 .k)<|.o (Qa z0)<|.n) fun _ a w H => ?_
  have H := H.to [2,5,6,7] [_,_,_,_] [_] rfl rfl
  exact k36 _ _ _ (sj h).symm (H.pick [0,1,2,3])
 refine wp_exit ?_
 exact hJp33 _ _ _ (ho _ (sj h).symm) (H.pick [])
noncomputable def QbB : Nat → (List Qb) → Int → Int → Int → Option (Int)
 | 0 => fun _ _ _ _ => none
 | n + 1 => Qb7 (QbB n)
theorem QhC : ∀ (n : Nat) (l_ : (List Qb)) (set_ : Int) (from_ : Int) (many_ : Int) (r : Int),QbB n l_ set_ from_ many_ = some r → FnOk Tryz.prog 58 [tsl Qj l_,tv (.int .u64 set_),ti from_,ti many_] [glo] (fun _ => []) (fun _ => tv (.int .u64 r))
 | 0,_,_,_,_,r,h => by cases h
 | n + 1,l_,set_,from_,many_,r,h => Qlf (fun l_ set_ from_ many_ r h => QhC n l_ set_ from_ many_ r h) h
noncomputable def Qec (l_ : (List Qb)) (set_ : Int) (from_ : Int) (many_ : Int) : Option (Int) := QbB (many_.natAbs + 2) l_ set_ from_ many_
theorem QlI {l_ : (List Qb)} {set_ : Int} {from_ : Int} {many_ : Int} {r : Int} (h : Qec l_ set_ from_ many_ = some r) : FnOk Tryz.prog 58 [tsl Qj l_,tv (.int .u64 set_),ti from_,ti many_] [glo] (fun _ => []) (fun _ => tv (.int .u64 r)) := QhC _ _ _ _ _ _ h

/- diorama/counts.Clash -/
noncomputable def Qbz (n_ : Int) (l_ : (List Qb)) : Option ((List Int) × Int) := (opt (((decide (n_ < (1:Int))) || (decide (n_ > (6:Int)))) == false) (Qah l_ (fun x0 => QcL x0 n_)) default).bind fun t19 => (if (((decide (n_ < (1:Int))) || (decide (n_ > (6:Int)))) || t19) = true then (some (([] : List Int),(1:Int))) else (if (decide ((l_.length : Int) > (24:Int))) = true then (some (([] : List Int),(4:Int))) else (Qci l_).bind fun t27 => (if t27 = true then (some (([] : List Int),(6:Int))) else (QI (fun (s12 : Int × Int) => ((if (s12.2 == (0:Int)) = true then (Qec l_ (0:Int) (0:Int) s12.1).bind fun t34 => (some (.inl ((IntKind.i64.wrap (s12.1 + (1:Int))),t34))) else (some (.inr s12.2))) : Option ((Int × Int) ⊕ ((Int))))) ((1:Int),(0:Int))).bind fun (p22 : (Int)) => (QI (fun (s26 : Int × List Int) => ((if (s26.1 != (0:Int)) = true then (QaW s26.1).bind fun t43 => (rm (s26.2.length + [t43].length)).bind fun _ => (some (.inl ((iand .u64 s26.1 (IntKind.u64.wrap (s26.1 - (1:Int)))),(s26.2 ++ [t43])))) else (some (.inr s26.2))) : Option ((Int × List Int) ⊕ ((List Int))))) (p22,([] : List Int))).bind fun (p37 : (List Int)) => (some (p37,(0:Int))))))
theorem QhD {n_ : Int} {l_ : (List Qb)} {r : (List Int) × Int} (h : Qbz n_ l_ = some r) : FnOk Tryz.prog 27 [ti n_,tsl Qj l_] [glo] (fun _ => []) (fun _ => ttup [tsl rI r.1,ti r.2]) := by
 unfold Qbz at h
 refine fe Tryz.func27 Tryz.ntmps27 fun M0 M w0 a hpl H => ?_
 replace H : St M w0 47 [(0,ti n_),(1,tsl Qj l_)] [glo] a w0 := H
 refine sr mx [] H (fun _ => .o (QT (R := rI) (u := n_) z0)<|.o (Qa (.nilsl (R := rI)))<|.o (Qa .k)<|.n) fun _ a w H => ?_
 have H := H.to [0,4] [_,_] [_] rfl rfl
 refine wp_seq_k (fun _ k2 => ?_)
 refine wp_block ?_
 have ⟨t19,ht19,h⟩ := bs h
 refine sr mx [] H (fun _ => .o (Qr tok3 z0)<|.o (QU z0 .k)<|.q 0 rfl<|.g rfl rfl bq0 (fun _ => Qr tok3 z3)<|.g rfl rfl bq1 (fun hc => Qcf (.cond z0 hc) .k)<|.o (Qao z2 (fun hp => (.cond z0 (beqF hp))))<|.q 0 rfl<|.g rfl rfl bq0 (fun _ => Qw z8)<|.g rfl rfl bq1 (fun _ => QdK (.cons z8<|.nil))<|.g rfl rfl bq2 (fun hc => Qh Qsx (QeW (Q9 ht19 hc)) (.cons (.of (.cond z1 hc))<|.cons (.of (Fct.weak (.cond z0 hc) (Qb1 call56 (fun _ _ hq => Qmt hq))))<|.nil))<|.o (Qao z3 (fun hp => (.cond z0 (beqF hp))))<|.o (Qa z0)<|.n) fun _ a w H => ?_
 have H := H.to [11,13] [_,_] [_] rfl rfl
 refine wi H h (fun b52 h => ?_) (fun b52 h => ?_)
 ·refine sr mx [] H (fun _ => .o (Qa (.nilsl (R := rI)))<|.o (Qa .k)<|.n) fun _ a w H => ?_
  have H := H.to [0,1] [_,_] [_] rfl rfl
  refine wp_ret ?_
  obtain rfl := sj h
  exact rt undef [] hpl H (.tmp z0 (.tmp z1 .nil))
 refine sr mx [] H (fun _ => .q 1 rfl<|.o (QN ud31 z0)<|.o (Qcf z0 .k)<|.o (Qa z0)<|.n) fun _ a w H => ?_
 have H := H.to [3,5] [_,_] [_] rfl rfl
 refine wi H h (fun b51 h => ?_) (fun b51 h => ?_)
 ·refine sr mx [] H (fun _ => .o (Qa (.nilsl (R := rI)))<|.o (Qa .k)<|.n) fun _ a w H => ?_
  have H := H.to [0,1] [_,_] [_] rfl rfl
  refine wp_ret ?_
  obtain rfl := sj h
  exact rt undef [] hpl H (.tmp z0 (.tmp z1 .nil))
 have ⟨t27,ht27,h⟩ := bs h
 refine sr mx [] H (fun _ => .q 1 rfl<|.o (Qh Qp2 (Qia ht27) (.cons (.of z0)<|.nil))<|.o (Qa z0)<|.n) fun _ a w H => ?_
 have H := H.to [2,4] [_,_] [_] rfl rfl
 refine wi H h (fun b50 h => ?_) (fun b50 h => ?_)
 ·refine sr mx [] H (fun _ => .o (Qa (.nilsl (R := rI)))<|.o (Qa .k)<|.n) fun _ a w H => ?_
  have H := H.to [0,1] [_,_] [_] rfl rfl
  refine wp_ret ?_
  obtain rfl := sj h
  exact rt undef [] hpl H (.tmp z0 (.tmp z1 .nil))
 refine wp_skip (k2 _ _ ?_)
 refine sr mx [] H (fun _ => .o (Qa .k)<|.n) fun _ a w H => ?_
 have H := H.to [0,2] [_,_] [_] rfl rfl
 refine wp_seq_k (fun K10 k10 => ?_)
 refine sr mx [] H (fun _ => .o (Qa .k)<|.n) fun _ a w H => ?_
 have H := H.to [0,1,2] [_,_,_] [_] rfl rfl
 have ⟨e13,he13,h⟩ := bs h
 have hJp22 : ∀ (p22 : Int) a w,p22 = e13 → St M w0 47 [(6,tv (.int .u64 p22))] [glo] a w → K10 a w := by
  intro p22 a w he H
  subst he
  refine k10 _ _ ?_
  refine sr mx [] H (fun _ => .o (Qa .k)<|.n) fun _ a w H => ?_
  replace H : St _ _ _ [_,_] [_,_] _ _ := (H.pick [0,1]).nil (rI) 3
  refine wp_seq_k (fun K25 k25 => ?_)
  have ⟨e27,he27,h⟩ := bs h
  have hJp37 : ∀ (p37 : List Int) (v38 : Value) a w,p37 = e27 → St M w0 47 [(8,tv v38)] [own rI 3 p37 v38,glo] a w → K25 a w := by
   intro p37 v38 a w he H
   subst he
   refine k25 _ _ ?_
   refine sr mx [] H (fun _ => .q 0 rfl<|.o (Qa z0)<|.o (Qa .k)<|.n) fun _ a w H => ?_
   have H := H.to [0,1,2,3] [_,_,_,_] [_,_] rfl rfl
   refine wp_ret ?_
   replace H : St _ _ _ [_,_] [_] _ _ := (H.shareO 1 rfl).pick [0,3]
   obtain rfl := sj h
   exact rt undef [] hpl H (.tmp z0 (.tmp z1 .nil))
  refine wp_block ?_
  refine QZ _ (fun (s26 : Int × List Int) a w => ∃ v32 : Value,St M w0 47 [(8,tv v32),(6,tv (.int .u64 s26.1))] [own rI 3 s26.2 v32,glo] a w) _ _ he27 ⟨(.slice none 0 0),H.pick [0,1]⟩ ?_
  clear h
  intro s26 o a w K40 hI h ho k40
  obtain ⟨v32,H⟩ := hI
  refine wp_seq_k (fun _ k41 => ?_)
  refine sr mx [] H (fun _ => .q 1 rfl<|.o (Qam z0 .k)<|.n) fun _ a w H => ?_
  have H := H.to [1,2,3] [_,_,_] [_,_] rfl rfl
  refine wi H h (fun b44 h => ?_) (fun b44 h => ?_)
  ·refine wp_skip (k41 _ _ ?_)
   refine wp_seq_k (fun _ k43 => ?_)
   refine wp_block ?_
   have ⟨t43,ht43,h⟩ := bs h
   have ⟨u45,hu45,h⟩ := bs h
   refine wr mx [v1 4 (fun v0 => own rI 3 (s26.2 ++ [t43]) v0)] H (fun _ => .q 1 rfl<|.q 3 rfl<|.u [1] rfl rfl ((Qh Qsz (Qhf ht43) (.cons (.of z0)<|.nil)).glo)<|.o (QE (R := rI) (us := [t43]) ud22 tok3 (.cons z0<|.nil _) rfl (leb rfl))<|.e [] [0] [2] rfl rfl rfl rfl (Qaf (R := rI) ud22 tok3 (leb rfl) z3 z0 hu45)<|.ud (f := fun v => tv v) 4 rfl [] rfl rfl (Qa z0)<|.n) fun n15 a w H => ?_
   have H := H.to [4,5,7] [_,_,_] [_,_] rfl rfl
   refine k43 _ _ ?_
   refine wr mx [] H (fun _ => .q 2 rfl<|.q 3 rfl<|.o (Qdc z0 .k)<|.o (Qn3 z2 z0)<|.o (Qa z0)<|.n) fun _ a w H => ?_
   have H := H.to [4,5,6] [_,_,_] [_,_] rfl rfl
   exact k40 _ _ _ (sj h).symm ⟨(n15 4),(H.pick [2,0]).selA [1,0] rfl⟩
  refine wp_exit ?_
  exact hJp37 _ v32 _ _ (ho _ (sj h).symm) (H.pick [1])
 refine wp_block ?_
 refine QZ _ (fun (s12 : Int × Int) a w => St M w0 47 [(7,ti s12.1),(6,tv (.int .u64 s12.2)),(1,tsl Qj l_)] [glo] a w) _ _ he13 (H.pick [0,1,2]) ?_
 clear h
 intro s12 o a w K45 hI h ho k45
 have H := hI
 clear hI
 refine wp_seq_k (fun _ k46 => ?_)
 refine sr mx [] H (fun _ => .q 1 rfl<|.o (Q4 z0 .k)<|.n) fun _ a w H => ?_
 have H := H.to [1,2,3,4] [_,_,_,_] [_] rfl rfl
 refine wi H h (fun b49 h => ?_) (fun b49 h => ?_)
 ·refine wp_skip (k46 _ _ ?_)
  refine wp_seq_k (fun _ k48 => ?_)
  refine wp_block ?_
  have ⟨t34,ht34,h⟩ := bs h
  refine wr mx [] H (fun _ => .q 3 rfl<|.q 2 rfl<|.u [0] rfl rfl ((Qh Qsy (QlI ht34) (.cons (.of z1)<|.cons (.of .k)<|.cons (.of .k)<|.cons (.of z0)<|.nil)).glo)<|.o (Qa z0)<|.n) fun _ a w H => ?_
  have H := H.to [3,5,6] [_,_,_] [_] rfl rfl
  refine k48 _ _ ?_
  refine wr mx [] H (fun _ => .q 1 rfl<|.o (QV z0 .k)<|.o (Qa z0)<|.n) fun _ a w H => ?_
  have H := H.to [2,3,4] [_,_,_] [_] rfl rfl
  exact k45 _ _ _ (sj h).symm (H.pick [0,1,2])
 refine wp_exit ?_
 exact hJp22 _ _ _ (ho _ (sj h).symm) (H.pick [2])

end Go.Proofs.YtcdccjagknlmpaaGreatDoor

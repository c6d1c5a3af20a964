/- Go functions as Lean functions, and the proofs that they compute them, written by a program. No condition. -/
import Derived.Test.YtcdccjagknlmpaaGreatDoorGenE
namespace Go.Proofs.YtcdccjagknlmpaaGreatDoor
open Go.Sim
set_option maxRecDepth 100000
set_option maxHeartbeats 4000000

/- counts.values, by hand. -/
theorem Qjx {q : Value} {s_ : Qp} {kind_ : Int} {r : Int × Int} (h : Qbd s_ kind_ = some r) :
  FnOk Tryz.prog 84 [tv q,ti kind_] [box (QD.cs s_) q] (fun _ => [box (QD.cs s_) q]) (fun _ => QdC 121 [tptr (rI.cs r.1),tptr (rI.cs r.2),tptr (rVal.cs q),tptr (rI.cs kind_)]) := by
 refine fe Tryz.func84 Tryz.ntmps84 fun M0 M w0 a hpl H => ?_
 replace H : St M w0 14 [(0,tv q),(1,ti kind_)] [box (QD.cs s_) q] a w0 := H
 refine wp_seq_k (fun K1 k1 => ?_)
 refine wr mx [] H (fun _ => .u [0] rfl rfl (Qqe z0)<|.o (QT (R := rI) (u := kind_) z2)<|.o (Qa .k)<|.n) fun _ a w H => ?_
 have H := H.to [0,1] [_,_] [_] rfl rfl
 refine k1 _ _ ?_
 clear k1 K1
 refine wp_seq_k (fun K2 k2 => ?_)
 refine Qen mixed [v1 6 (fun v0 => box (rI.cs (0:Int)) v0),v1 7 (fun v0 => box (rI.cs (0:Int)) v0),v1 6 (fun v0 => box (splice (rI.cs (0:Int)) 0 (rI.cs r.1)) v0),v1 7 (fun v0 => box (splice (rI.cs (0:Int)) 0 (rI.cs r.2)) v0)] H (fun n1 => .p rfl (Qbk QbB z0)<|.o (Qr (R := rI) (u := kind_) tok3 z2)<|.u [0] rfl rfl (QgV [box (QD.cs s_) q] Qt1 (Qj6 h) (.cons (.boxR z1 (.head _))<|.cons (.of z0)<|.nil) (fun _ => QsE (by intro T h; simp at h; rcases h with h | h <;> subst h <;> exact QgT)) (fun _ => Qld (x := undef)))<|.q 0 rfl<|.o (QS z0 rfl)<|.o (QS z1 rfl)<|.m (f := fun p => tv p) [] [1] rfl rfl rfl (Q0 (R := rI) (a := (0:Int)) tok3 zok3)<|.m (f := fun p => tv p) [] [2] rfl rfl rfl (Q0 (R := rI) (a := (0:Int)) tok3 zok3)<|.e [] [1] [3] rfl rfl rfl rfl (QQ (R := rI) (a := r.1) tok3 z1 z3 (leb rfl))<|.e [] [2] [4] rfl rfl rfl rfl (QQ (R := rI) (a := r.2) tok3 z0 z2 (leb rfl))<|.nil _ _) (by kernel_rfl) (fun n1 a w H => ?_)
 have H := H.to [6,7,8,9] [_,_,_,_] [_,_,_] rfl rfl
 refine k2 _ _ ?_
 clear k2 K2
 replace H : St _ _ _ [_,_,_,_] [_,_] _ _ := (((H.selA [1,0,2] rfl).shareB 0 rfl).add 0 rfl (fun _ _ _ h => h.2)).pick [0,3,4,5]
 replace H : St _ _ _ [_,_,_,_] [_] _ _ := (((H.selA [1,0] rfl).shareB 1 rfl).add 0 rfl (fun _ _ _ h => h.2)).pick [2,0,4,5]
 refine wp_seq_k (fun _ k3 => ?_)
 refine wr mx [] H (fun _ => .o (Qdx (.cons z0<|.cons z1<|.cons z2<|.cons z3<|.nil))<|.o (Qa z0)<|.n) fun _ a w H => ?_
 have H := H.to [1] [_] [_] rfl rfl
 refine k3 _ _ ?_
 refine wp_ret ?_
 exact rt undef [0] hpl H (.tmp z0 .nil)

/- diorama/counts.far -/
noncomputable def QcA (a_ : Int) (b_ : Int) : Option (Int) := (some (imax (IntKind.i64.wrap (a_ - b_)) (IntKind.i64.wrap (b_ - a_))))
theorem QoJ {a_ : Int} {b_ : Int} {r : Int} (h : QcA a_ b_ = some r) : FnOk Tryz.prog 85 [ti a_,ti b_] [] (fun _ => []) (fun _ => ti r) := by
 unfold QcA at h
 refine fe Tryz.func85 Tryz.ntmps85 fun M0 M w0 a hpl H => ?_
 replace H : St M w0 12 [(0,ti a_),(1,ti b_)] [] a w0 := H
 refine sr mx [] H (fun _ => .o (Qa .k)<|.n) fun _ a w H => ?_
 have H := H.to [1,2] [_,_] [] rfl rfl
 refine sr mx [] H (fun _ => .q 0 rfl<|.q 2 rfl<|.o (QcN z1 z0)<|.q 4 rfl<|.q 4 rfl<|.o (QcN z1 z0)<|.o (QmS z3 z0)<|.o (Qa z0)<|.n) fun _ a w H => ?_
 have H := H.to [7] [_] [] rfl rfl
 refine wp_ret ?_
 obtain rfl := sj h
 exact rt undef [] hpl H (.tmp z0 .nil)

/- (*diorama/counts.search).try -/
noncomputable def Qbw (self : Qp → Int → Int → Option (Qp)) (s_ : Qp) (kind_ : Int) (cost_ : Int) : Option (Qp) := (if ((decide ((s_).cost ≥ (0:Int))) && (decide (cost_ > (s_).cost))) = true then (some s_) else (if (kind_ == ((s_).want.length : Int)) = true then (opt ((((decide ((s_).cost < (0:Int))) || (decide (cost_ < (s_).cost))) == false) && ((!Qbf (s_).now (s_).best) == true)) (Qbc ((s_).now).L ((s_).best).L) default).bind fun t59 => ((if (((decide ((s_).cost < (0:Int))) || (decide (cost_ < (s_).cost))) || ((!Qbf (s_).now (s_).best) && (decide (t59 < (0:Int))))) = true then (some (Qp.mk (s_).limits (s_).want (s_).leads (s_).now (s_).now cost_)) else (some s_))).bind fun (p9 : Qp) => (some p9) else (Qbd s_ kind_).bind fun t76 => (Qbq (fun s15 n16 => (idx ((s15).now).L kind_).bind fun t83 => (idx (s15).want kind_).bind fun t94 => (QcA n16 t94).bind fun t96 => (self (Qp.mk (s15).limits (s15).want (s15).leads (((s15).now).setI kind_ n16) (s15).best (s15).cost) (IntKind.i64.wrap (kind_ + (1:Int))) (IntKind.i64.wrap (cost_ + t96))).bind fun t98 => (some t98)) s_ (t76).1 (t76).2 kind_).bind fun t14 => (idx ((t14).now).L kind_).bind fun t103 => (some (Qp.mk (t14).limits (t14).want (t14).leads (((t14).now).setI kind_ (0:Int)) (t14).best (t14).cost))))
theorem Qj7 {self : Qp → Int → Int → Option (Qp)} (hself : ∀ (q0 : Value) (s_ : Qp) (kind_ : Int) (cost_ : Int) (r : Qp),self s_ kind_ cost_ = some r → FnOk Tryz.prog 50 [tv q0,ti kind_,ti cost_] [box (QD.cs s_) q0] (fun _ => [box (QD.cs r) q0]) (fun _ => ttup [])) {q0 : Value} {s_ : Qp} {kind_ : Int} {cost_ : Int} {r : Qp} (h : Qbw self s_ kind_ cost_ = some r) : FnOk Tryz.prog 50 [tv q0,ti kind_,ti cost_] [box (QD.cs s_) q0] (fun _ => [box (QD.cs r) q0]) (fun _ => ttup []) := by
 unfold Qbw at h
 refine FnOk.enterM Tryz.func50 rfl Tryz.ntmps50 (leb rfl) (fun M0 M w0 a hpl H => ?_)
 replace H : St M w0 104 [(0,tv q0),(1,ti kind_),(2,ti cost_)] [box (QD.cs s_) q0] a w0 := H
 refine sr mx [] H (fun _ => .u [0] rfl rfl (Qqe z0)<|.o (QT (R := rI) (u := kind_) z2)<|.o (QT (R := rI) (u := cost_) z4)<|.n) fun _ a w H => ?_
 have H := H.to [0,1,2,3] [_,_,_,_] [_] rfl rfl
 refine wp_seq_k (fun _ k3 => ?_)
 refine sr mx [] H (fun _ => .o (Qbk QbB z0)<|.u [0] rfl rfl (Qaw z0)<|.u [0] rfl rfl (QB QhR z0)<|.u [0] rfl rfl (Qa0 (R := rI) (u := (s_).cost) tok3 z0 rfl)<|.o (QaZ z0 .k)<|.q 0 rfl<|.g rfl rfl bq0 (fun _ => Qr tok3 z8)<|.g rfl rfl bq1 (fun _ => Qbk QbB z7)<|.gu [0] rfl rfl rfl bq2 (fun hc => Qaw (.cond z0 hc))<|.gu [0] rfl rfl rfl bq3 (fun hc => QB QhR (.cond z0 hc))<|.gu [0] rfl rfl rfl bq4 (fun hc => Qa0 (R := rI) (u := (s_).cost) tok3 (.cond z0 hc) rfl)<|.g rfl rfl bq5 (fun hc => Qb8 (.cond z4 hc) (.cond z0 hc))<|.o (QU z6 (fun hp => (.cond z0 (beqT hp))))<|.n) fun _ a w H => ?_
 have H := H.to [12,13,14,15,16] [_,_,_,_,_] [_] rfl rfl
 refine wi H h (fun b22 h => ?_) (fun b22 h => ?_)
 ·refine wp_ret ?_
  obtain rfl := sj h
  exact Qpg (Qij undef [0] hpl H rfl .nil rfl rfl rfl)
 refine wp_skip (k3 _ _ ?_)
 refine wp_seq_k (fun _ k5 => ?_)
 refine sr mx [] H (fun _ => .o (Qr tok3 z2)<|.o (Qbk QbB z2)<|.u [0] rfl rfl (Qaw z0)<|.u [0] rfl rfl (QB Qms z0)<|.u [0] rfl rfl (Qa0 (R := (rSl rI)) (u := (s_).want) Qf8 z0 rfl)<|.o (QM ud22 z0)<|.o (Q3 z5 z0)<|.n) fun _ a w H => ?_
 have H := H.to [6,8,9,10,11] [_,_,_,_,_] [_] rfl rfl
 refine wi H h (fun b21 h => ?_) (fun b21 h => ?_)
 ·refine wp_seq_k (fun K7 k7 => ?_)
  have ⟨t59,ht59,h⟩ := bs h
  refine sr mx [] H (fun _ => .o (Qbk QbB z1)<|.u [0] rfl rfl (Qaw z0)<|.u [0] rfl rfl (QB QhR z0)<|.u [0] rfl rfl (Qa0 (R := rI) (u := (s_).cost) tok3 z0 rfl)<|.o (QV z0 .k)<|.q 0 rfl<|.g rfl rfl bq0 (fun _ => Qr tok3 z9)<|.g rfl rfl bq1 (fun _ => Qbk QbB z8)<|.gu [0] rfl rfl rfl bq2 (fun hc => Qaw (.cond z0 hc))<|.gu [0] rfl rfl rfl bq3 (fun hc => QB QhR (.cond z0 hc))<|.gu [0] rfl rfl rfl bq4 (fun hc => Qa0 (R := rI) (u := (s_).cost) tok3 (.cond z0 hc) rfl)<|.g rfl rfl bq5 (fun hc => QV (.cond z4 hc) (.cond z0 hc))<|.o (Qao z6 (fun hp => (.cond z0 (beqF hp))))<|.q 0 rfl<|.g rfl rfl bq0 (fun _ => Qbk QbB z15)<|.gu [0] rfl rfl rfl bq1 (fun hc => Qaw (.cond z0 hc))<|.gu [0] rfl rfl rfl bq2 (fun hc => QB QhQ (.cond z0 hc))<|.gu [0] rfl rfl rfl bq3 (fun hc => Qa0 (R := Qx) (u := (s_).now) Qhb (.cond z0 hc) rfl)<|.g rfl rfl bq4 (fun _ => Qbk QbB z19)<|.gu [0] rfl rfl rfl bq5 (fun hc => Qaw (.cond z0 hc))<|.gu [0] rfl rfl rfl bq6 (fun hc => QB QkA (.cond z0 hc))<|.gu [0] rfl rfl rfl bq7 (fun hc => Qa0 (R := Qx) (u := (s_).best) Qhb (.cond z0 hc) rfl)<|.g rfl rfl bq8 (fun hc => QpX (.cond z4 hc) (.cond z0 hc))<|.g rfl rfl bq9 (fun hc => Qw (.cond z0 hc))<|.g rfl rfl (.c 0 rfl) (fun _ => Qbk QbB z25)<|.gu [0] rfl rfl rfl (.c 1 rfl) (fun hc => Qaw (.cond z0 hc))<|.gu [0] rfl rfl rfl (.c 2 rfl) (fun hc => QB QhQ (.cond z0 hc))<|.gu [0] rfl rfl rfl (.c 3 rfl) (fun hc => Qkx (j := (6:Int)) Qhj tok3 (.cond z0 hc) (.no _) (by decide) (by decide))<|.g rfl rfl (.c 4 rfl) (fun _ => Qbk QbB z29)<|.gu [0] rfl rfl rfl (.c 5 rfl) (fun hc => Qaw (.cond z0 hc))<|.gu [0] rfl rfl rfl (.c 6 rfl) (fun hc => QB QkA (.cond z0 hc))<|.gu [0] rfl rfl rfl (.c 7 rfl) (fun hc => Qkx (j := (6:Int)) Qhj tok3 (.cond z0 hc) (.no _) (by decide) (by decide))<|.gu [0] rfl rfl rfl (.c 8 rfl) (fun hc => QgV [box (QD.cs s_) q0] call83 (Qj5 (Q6 ht59 hc)) (.cons (.asl (L := ((s_).now).L) (.cond z4 hc) (.head _) rfl (leb rfl) rfl)<|.cons (.asl (L := ((s_).best).L) (.cond z0 hc) (.head _) rfl (leb rfl) rfl)<|.nil) (fun _ => QgT) (fun _ => Qld (x := undef)))<|.g rfl rfl (.c 9 rfl) (fun hc => QV (.cond z0 hc) .k)<|.g rfl rfl (.b 20 rfl) (fun hc => QU (.cond z10 hc) (fun hp => (.cond z0 (QgW hc (beqT hp)))))<|.o (Qao z21 (fun hp => (.cond z0 (beqF hp))))<|.n) fun _ a w H => ?_
  have H := H.to [35,37,39,40] [_,_,_,_] [_] rfl rfl
  have ⟨p9,hp9,h⟩ := bs h
  have hJp9 : ∀ a w,St M w0 104 [(0,tv q0)] [box (QD.cs p9) q0] a w → K7 a w := by
   intro a w H
   refine k7 _ _ ?_
   refine wp_ret ?_
   obtain rfl := sj h
   exact Qpg (Qij undef [0] hpl H rfl .nil rfl rfl rfl)
  replace h := hp9
  clear hp9
  refine wi H h (fun b11 h => ?_) (fun b11 h => ?_)
  ·refine wr mx [v0 (box (QD.cs (Qp.mk (s_).limits (s_).want (s_).leads (s_).now (s_).now (s_).cost)) q0),v0 (box (QD.cs (Qp.mk (s_).limits (s_).want (s_).leads (s_).now (s_).now cost_)) q0)] H (fun _ => .o (Qbk QbB z1)<|.o (Qbk QbB z2)<|.o (Qbk QbB z3)<|.u [0] rfl rfl (Qaw z0)<|.u [0] rfl rfl (QB QhQ z0)<|.u [0] rfl rfl (Qa0 (R := Qx) (u := (s_).now) Qhb z0 rfl)<|.o (Qr tok3 z8)<|.u [0] rfl rfl (Qaw z6)<|.u [0] rfl rfl (QB QkA z0)<|.e [] [0] [1] rfl rfl rfl rfl (Qat (R := Qx) (a := (s_).now) (Ts := (QD.cs s_)) (off := 9) Qhb z0 z3 (leb rfl))<|.u [1] rfl rfl (Qaw z7)<|.u [1] rfl rfl (QB QhR z0)<|.e [] [1] [2] rfl rfl rfl rfl (Qat (R := rI) (a := cost_) (Ts := (QD.cs (Qp.mk (s_).limits (s_).want (s_).leads (s_).now (s_).now (s_).cost))) (off := 15) tok3 z0 z4 (leb rfl))<|.n) fun _ a w H => ?_
   have H := H.to [14] [_] [_] rfl rfl
   obtain rfl := sj h
   exact hJp9 _ _ (H.pick [0])
  refine wp_skip ?_
  obtain rfl := sj h
  exact hJp9 _ _ (H.pick [3])
 refine wp_skip (k5 _ _ ?_)
 refine wp_seq_k (fun _ k12 => ?_)
 have ⟨t76,ht76,h⟩ := bs h
 refine sr mx [v0 (box (QD.cs s_) q0)] H (fun _ => .o (Qbk QbB z1)<|.o (Qr tok3 z3)<|.e [] [0] [1] rfl rfl rfl rfl (Qh call84 (Qjx ht76) (.cons (.of z1)<|.cons (.of z0)<|.nil))<|.n) fun _ a w H => ?_
 have H := H.to [2,4,5,6,7] [_,_,_,_,_] [_] rfl rfl
 refine wp_block ?_
 have ⟨t14,ht14,h⟩ := bs h
 refine QqI (A := fun s => [box (QD.cs s) q0]) H z0 Qt2 (fun l LR hY => QiP hY ht14) (by decide) rfl (fun s15 n16 r17 h M0 M w0 a l LR LB K Q hpl H hK hQ => ?_) (fun D a w M hpm H => ?_)
 ·refine Qph mixed rfl [] H (fun _ => .o (Qa z0)<|.nil _ _) (by kernel_rfl) (fun _ a w H => ?_)
  have H := H.to [0,3,4,5,6] [_,_,_,_,_] [_,_] rfl rfl
  refine hK _ _ _ _ H (fun w H => ?_)
  refine wpIn_block ?_
  refine wpIn_seq_k (fun _ k19 => ?_)
  have ⟨t83,ht83,h⟩ := bs h
  refine Qph mixed rfl [v0 (box (QD.cs (Qp.mk (s15).limits (s15).want (s15).leads (((s15).now).setI kind_ n16) (s15).best (s15).cost)) q0)] H (fun _ => .o (Qbk QbB z1)<|.o (Qr tok3 z3)<|.q 2 rfl<|.u [1] rfl rfl (Qaw z2)<|.u [1] rfl rfl (QB QhQ z0)<|.u [1] rfl rfl (Qoi (L := ((s15).now).L) Qhj tok3 rfl z0 z3 rfl ht83)<|.e [] [1] [2] rfl rfl rfl rfl (Qkw (a := n16) (Ts := (QD.cs s15)) (o := 3) (L := ((s15).now).L) tok3 rfl z0 z3 ht83 (leb rfl) (Qm.spl (pre := List.take 3 (QD.cs s15)) (post := List.drop 9 (QD.cs s15)) rfl ht83))<|.nil _ _) (by kernel_rfl) (fun _ a w H => ?_)
  have H := H.to [6,7,8,9,10] [_,_,_,_,_] [_,_] rfl rfl
  refine k19 _ _ ?_
  have ⟨t94,ht94,h⟩ := bs h
  have ⟨t96,ht96,h⟩ := bs h
  have ⟨t98,ht98,h⟩ := bs h
  refine Qph mixed rfl [v0 (box (QD.cs t98) q0)] H (fun _ => .o (Qbk QbB z1)<|.o (Qr tok3 z3)<|.o (QW z0 .k)<|.o (Qr tok3 z6)<|.q 4 rfl<|.o (Qbk QbB z6)<|.u [1] rfl rfl (Qaw z0)<|.u [1] rfl rfl (QB Qms z0)<|.u [1] rfl rfl (Qa0 (R := (rSl rI)) (u := (s15).want) Qf8 z0 rfl)<|.o (Qr tok3 z11)<|.o (QH ud22 tok3 z1 z0 ht94)<|.o (Qr tok3 z0)<|.o (Qh call85 (QoJ ht96) (.cons (.of z7)<|.cons (.of z0)<|.nil))<|.o (QW z9 z0)<|.e [] [1] [2] rfl rfl rfl rfl (Qh QrF (hself _ _ _ _ _ ht98) (.cons (.of z13)<|.cons (.of z11)<|.cons (.of z0)<|.nil))<|.nil _ _) (by kernel_rfl) (fun _ a w H => ?_)
  have H := H.to [16,17,18,19] [_,_,_,_] [_,_] rfl rfl
  obtain rfl := sj h
  exact hQ _ [0,1] _ _ _ H rfl rfl
 replace hpl := hpm _ _ hpl
 have H := H.to [1,2,3,4] [_,_,_,_] [_,_] rfl rfl
 refine k12 _ _ ?_
 have ⟨t103,ht103,h⟩ := bs h
 refine wr mx [v0 (box (QD.cs (Qp.mk (t14).limits (t14).want (t14).leads (((t14).now).setI kind_ (0:Int)) (t14).best (t14).cost)) q0)] H (fun _ => .o (Qbk QbB z0)<|.o (Qr tok3 z2)<|.u [1] rfl rfl (Qaw z1)<|.u [1] rfl rfl (QB QhQ z0)<|.u [1] rfl rfl (Qoi (L := ((t14).now).L) Qhj tok3 rfl z0 z2 rfl ht103)<|.e [] [1] [2] rfl rfl rfl rfl (Qkw (a := (0:Int)) (Ts := (QD.cs t14)) (o := 3) (L := ((t14).now).L) tok3 rfl z0 .k ht103 (leb rfl) (Qm.spl (pre := List.take 3 (QD.cs t14)) (post := List.drop 9 (QD.cs t14)) rfl ht103))<|.n) fun _ a w H => ?_
 have H := H.to [8] [_] [_,_] rfl rfl
 obtain rfl := sj h
 exact Qrp undef [1] hpl H rfl .nil rfl rfl rfl
noncomputable def QaQ : Nat → Qp → Int → Int → Option (Qp)
 | 0 => fun _ _ _ => none
 | n + 1 => Qbw (QaQ n)
theorem Qgz : ∀ (n : Nat) (q0 : Value) (s_ : Qp) (kind_ : Int) (cost_ : Int) (r : Qp),QaQ n s_ kind_ cost_ = some r → FnOk Tryz.prog 50 [tv q0,ti kind_,ti cost_] [box (QD.cs s_) q0] (fun _ => [box (QD.cs r) q0]) (fun _ => ttup [])
 | 0,_,_,_,_,r,h => by cases h
 | n + 1,q0,s_,kind_,cost_,r,h => Qj7 (fun q0 s_ kind_ cost_ r h => Qgz n q0 s_ kind_ cost_ r h) h
noncomputable def Qer (s_ : Qp) (kind_ : Int) (cost_ : Int) : Option (Qp) := QaQ ((s_).want.length + 2) s_ kind_ cost_
theorem QkI {q0 : Value} {s_ : Qp} {kind_ : Int} {cost_ : Int} {r : Qp} (h : Qer s_ kind_ cost_ = some r) : FnOk Tryz.prog 50 [tv q0,ti kind_,ti cost_] [box (QD.cs s_) q0] (fun _ => [box (QD.cs r) q0]) (fun _ => ttup []) := Qgz _ _ _ _ _ _ h

/- slices.Clone[[]int,int] -/
noncomputable def QcI (s_ : (List Int)) : Option ((List Int)) := (rm (([] : List Int).length + s_.length)).bind fun _ => (some (([] : List Int) ++ s_))
theorem Qk2 {s_ : (List Int)} {r : (List Int)} (h : QcI s_ = some r) : FnOk Tryz.prog 51 [tsl rI s_] [] (fun v => [own rI 3 r v]) (fun v => tv v) := by
 unfold QcI at h
 refine fe Tryz.func51 Tryz.ntmps51 fun M0 M w0 a hpl H => ?_
 replace H : St M w0 8 [(0,tsl rI s_)] [] a w0 := H
 refine sr mx [] H (fun _ => .o (Qa .k)<|.n) fun _ a w H => ?_
 have H := H.to [1] [_] [] rfl rfl
 refine wp_seq_k (fun _ k2 => ?_)
 refine sr mx [] H (fun _ => .q 0 rfl<|.o (op_eqNil' ud22 z0)<|.n) fun _ a w H => ?_
 have H := H.to [1,2] [_,_] [] rfl rfl
 refine QpU 0 H rfl (fun b8 => ?_) ?_
 ·replace h : (some ([] : List Int)) = some r := by
   have ⟨_,_,h⟩ := bs h
   rw [b8] at h
   exact h
  refine sr mx [] H (fun _ => .o (Qa .k)<|.n) fun _ a w H => ?_
  replace H : St _ _ _ [_] [_] _ _ := (H.pick [0]).nil (rI) 3
  refine wp_ret ?_
  obtain rfl := sj h
  exact rt (.slice none 0 0) [0] hpl H (.tmp z0 .nil)
 refine wp_skip (k2 _ _ ?_)
 refine wp_seq_k (fun _ k6 => ?_)
 have ⟨u7,hu7,h⟩ := bs h
 refine wr mx [v1 0 (fun v0 => own rI 3 ([] : List Int) v0),v1 2 (fun v0 => own rI 3 (([] : List Int) ++ s_) v0)] H (fun _ => .m [] [0] rfl rfl rfl (Qic (R := rI) (us := ([] : List Int)) ud22 tok3 (.nil _) rfl (leb rfl) (leb rfl))<|.q 2 rfl<|.e [] [0] [1] rfl rfl rfl rfl (Qam (R := rI) ud22 tok3 (leb rfl) z1 z0 hu7)<|.ud (f := fun v => tv v) 2 rfl [] rfl rfl (Qa z0)<|.n) fun n3 a w H => ?_
 have H := H.to [2,3] [_,_] [_] rfl rfl
 refine k6 _ _ ?_
 refine wp_ret ?_
 obtain rfl := sj h
 exact rt (n3 2) [0] hpl H (.tmp z1 .nil)

/- diorama/counts.Plan -/
noncomputable def Qbv (x_ : Qg) (want_ : (List Int)) : Option ((List Int) × Int) := (QaU x_).bind fun t17 => (if (t17.2.2 != (0:Int)) = true then (some (([] : List Int),t17.2.2)) else (opt (((want_.length : Int) != ((x_).Kinds.length : Int)) == false) (QaB want_ (fun x0 => QcY x0)) default).bind fun t32 => (if (((want_.length : Int) != ((x_).Kinds.length : Int)) || t32) = true then (some (([] : List Int),(1:Int))) else (mk (want_.length : Int) false).bind fun t38 => (QK (fun (s14 : Int × List Bool) => ((if (decide (s14.1 < (t17.1.length : Int))) = true then (idx t17.1 s14.1).bind fun t45 => ((if (decide ((t45).B ≥ (0:Int))) = true then (setAt s14.2 (t45).B true).bind fun t56s => (some t56s) else (some s14.2))).bind fun (p92 : List Bool) => (some (.inl ((IntKind.i64.wrap (s14.1 + (1:Int))),p92))) else (some (.inr s14.2))) : Option ((Int × List Bool) ⊕ ((List Bool))))) ((0:Int),t38)).bind fun (p36 : (List Bool)) => (QK (fun (s40 : Int × Int) => ((if (decide (s40.1 < ((x_).Kinds.length : Int))) = true then (idx (x_).Kinds s40.1).bind fun t64 => (idx p36 s40.1).bind fun t71 => ((if (t71 && (decide (s40.2 ≤ (131072:Int)))) = true then (some (IntKind.i64.wrap (s40.2 * (IntKind.i64.wrap ((IntKind.i64.wrap ((t64).Hi - (t64).Lo)) + (1:Int)))))) else (some s40.2))).bind fun (p81 : Int) => (some (.inl ((IntKind.i64.wrap (s40.1 + (1:Int))),p81))) else (some (.inr s40.2))) : Option ((Int × Int) ⊕ ((Int))))) ((0:Int),(1:Int))).bind fun (p62 : (Int)) => (if (decide (p62 > (131072:Int))) = true then (some (([] : List Int),(4:Int))) else (Qer (Qp.mk t17.1 want_ p36 zz6 zz6 (-1:Int)) (0:Int) (0:Int)).bind fun t89 => (if (decide ((t89).cost < (0:Int))) = true then (some (([] : List Int),(14:Int))) else (sub ((t89).best).L (0:Int) (want_.length : Int)).bind fun t100 => (QcI t100).bind fun t101 => (some (t101,(0:Int)))))))
theorem Qgi {x_ : Qg} {want_ : (List Int)} {r : (List Int) × Int} (h : Qbv x_ want_ = some r) : FnOk Tryz.prog 23 [Qk.ty x_,tsl rI want_] [glo] (fun _ => []) (fun _ => ttup [tsl rI r.1,ti r.2]) := by
 unfold Qbv at h
 refine fe Tryz.func23 Tryz.ntmps23 fun M0 M w0 a hpl H => ?_
 replace H : St M w0 102 [(0,Qk.ty x_),(1,tsl rI want_)] [glo] a w0 := H
 refine sr mx [] H (fun _ => .o (QT (R := Qk) (u := x_) z0)<|.o (Qa (.nilsl (R := rI)))<|.o (Qa .k)<|.n) fun _ a w H => ?_
 have H := H.to [0,4] [_,_] [_] rfl rfl
 have ⟨t17,ht17,h⟩ := bs h
 refine sr mx [] H (fun _ => .o (Qr QaG z0)<|.u [0] rfl rfl ((Qh Qpn (QgJ ht17) (.cons (.of z0)<|.nil)).glo)<|.q 0 rfl<|.o (QS z0 rfl)<|.o (QS z1 rfl)<|.o (QS z2 rfl)<|.o (Qa z2)<|.o (Qa z2)<|.o (Qa z2)<|.n) fun _ a w H => ?_
 have H := H.to [6,8,9,10] [_,_,_,_] [_] rfl rfl
 refine wp_seq_k (fun _ k3 => ?_)
 refine sr mx [] H (fun _ => .q 1 rfl<|.o (Qal z0 .k)<|.n) fun _ a w H => ?_
 have H := H.to [1,2,3,4,5] [_,_,_,_,_] [_] rfl rfl
 refine wi H h (fun b97 h => ?_) (fun b97 h => ?_)
 ·refine sr mx [] H (fun _ => .q 2 rfl<|.o (Qa (.nilsl (R := rI)))<|.o (Qa z1)<|.n) fun _ a w H => ?_
  have H := H.to [1,2] [_,_] [_] rfl rfl
  refine wp_ret ?_
  obtain rfl := sj h
  exact rt undef [] hpl H (.tmp z0 (.tmp z1 .nil))
 refine wp_skip (k3 _ _ ?_)
 refine wp_seq_k (fun _ k6 => ?_)
 have ⟨t32,ht32,h⟩ := bs h
 refine sr mx [] H (fun _ => .q 4 rfl<|.o (QM ud22 z0)<|.o (Qe Qbp z5)<|.o (Qf (u := (x_).Kinds) QdE z0 rfl)<|.o (QM ud23 z0)<|.o (Qal z3 z0)<|.q 0 rfl<|.g rfl rfl bq0 (fun _ => Qw z11)<|.g rfl rfl bq1 (fun hc => Qh QrC (Qfw (Q6 ht32 hc)) (.cons (.of (.cond z0 hc))<|.cons (.of (Fct.weak .fnE (QbS call49 (fun _ _ hq => QmD hq))))<|.nil))<|.o (Qao z2 (fun hp => (.cond z0 (beqF hp))))<|.n) fun _ a w H => ?_
 have H := H.to [9,11,13,14] [_,_,_,_] [_] rfl rfl
 refine wi H h (fun b96 h => ?_) (fun b96 h => ?_)
 ·refine sr mx [] H (fun _ => .o (Qa (.nilsl (R := rI)))<|.o (Qa .k)<|.n) fun _ a w H => ?_
  have H := H.to [0,1] [_,_] [_] rfl rfl
  refine wp_ret ?_
  obtain rfl := sj h
  exact rt undef [] hpl H (.tmp z0 (.tmp z1 .nil))
 refine wp_skip (k6 _ _ ?_)
 refine wp_seq_k (fun _ k9 => ?_)
 have ⟨t38,ht38,h⟩ := bs h
 refine Qen mixed [v1 4 (fun v0 => own QaY 4 t38 v0),v2 4 6 (fun v0 v1 => box ([tsl Qj t17.1,tsl rI want_,tvs v0] ++ Qx.cs zz6 ++ Qx.cs zz6 ++ [ti (-1:Int)]) v1)] H (fun n6 => .q 1 rfl<|.q 4 rfl<|.q 5 rfl<|.o (QM ud22 z0)<|.m [] [1] rfl rfl rfl (QsB (R := QaY) QoT tok4 zok4 (leb rfl) z0 z0 ht38)<|.ud (f := fun v => tagg ([tsl Qj t17.1,tsl rI want_,tvs v] ++ Qx.cs zz6 ++ Qx.cs zz6 ++ [ti (-1:Int)])) 4 rfl [1] rfl rfl (.say (A := own QaY 4 t38 (n6 4)) (.head _) (fun _ _ h => QlN h) fun hu1 => OpJ.useMore (U := []) (fun A hA => by cases hA) (QY Tryz.underlying105 pl105 zv105 zc105 (.cons (R := (rSl Qj)) (u := t17.1) rfl z4 (leb rfl)<|.cons (R := (rSl rI)) (u := want_) rfl z3 (leb rfl)<|.cons (R := rVal) (u := (n6 4)) rfl (Fct.weak z0 fun _ _ _ h => ⟨h,hu1⟩) (leb rfl)<|.cons (R := rI) (u := (-1:Int)) rfl .k (leb rfl)<|.nil _)))<|.m [] [2] rfl rfl rfl (Qrf (R := (rAgg ([tsl Qj t17.1,tsl rI want_,tvs (n6 4)] ++ Qx.cs zz6 ++ Qx.cs zz6 ++ [ti (-1:Int)]) (QgY (QgY (QgY (Qy Qb5 (Qy Qb5 (Qy QdL Qah))) (Qi0 Qx)) (Qi0 Qx)) (Qy (Q2 rfl) Qah)))) (u := ()) z0)<|.ud (f := fun v => tv v) 6 rfl [] rfl rfl (Qa z0)<|.nil _ _) (by kernel_rfl) (fun n6 a w H => ?_)
 have H := H.to [4,7,9,10,11] [_,_,_,_,_] [_,_,_] rfl rfl
 refine k9 _ _ ?_
 refine wp_seq_k (fun K12 k12 => ?_)
 refine sr mx [] H (fun _ => .q 2 rfl<|.o (QM ud31 z0)<|.o (Qw .k)<|.n) fun _ a w H => ?_
 have H := H.to [0,1,2,3,4,6,7] [_,_,_,_,_,_,_] [_,_,_] rfl rfl
 have ⟨e15,he15,h⟩ := bs h
 have hJp36 : ∀ (p36 : List Bool) a w,p36 = e15 → St M w0 102 [(9,tv (n6 6)),(2,tptr (Qk.cs x_)),(1,tsl rI want_)] [glo,own QaY 4 p36 (n6 4),box ([tsl Qj t17.1,tsl rI want_,tvs (n6 4)] ++ Qx.cs zz6 ++ Qx.cs zz6 ++ [ti (-1:Int)]) (n6 6)] a w → K12 a w := by
  intro p36 a w he H
  subst he
  refine k12 _ _ ?_
  refine sr mx [] H (fun _ => .o (Qa .k)<|.n) fun _ a w H => ?_
  have H := H.to [0,1,2,3] [_,_,_,_] [_,_,_] rfl rfl
  refine wp_seq_k (fun K38 k38 => ?_)
  refine sr mx [] H (fun _ => .o (Qe Qbp z2)<|.o (Qf (u := (x_).Kinds) QdE z0 rfl)<|.o (QM ud23 z0)<|.o (Qw .k)<|.n) fun _ a w H => ?_
  have H := H.to [1,2,3,4,5,7] [_,_,_,_,_,_] [_,_,_] rfl rfl
  have ⟨e41,he41,h⟩ := bs h
  have hJp62 : ∀ (p62 : Int) a w,p62 = e41 → St M w0 102 [(12,ti p62),(9,tv (n6 6)),(1,tsl rI want_)] [glo,own QaY 4 p36 (n6 4),box ([tsl Qj t17.1,tsl rI want_,tvs (n6 4)] ++ Qx.cs zz6 ++ Qx.cs zz6 ++ [ti (-1:Int)]) (n6 6)] a w → K38 a w := by
   intro p62 a w he H
   subst he
   refine k38 _ _ ?_
   refine wp_seq_k (fun _ k63 => ?_)
   refine sr mx [] H (fun _ => .q 0 rfl<|.o (Qb8 z0 .k)<|.n) fun _ a w H => ?_
   have H := H.to [1,3,4] [_,_,_] [_,_,_] rfl rfl
   refine wi H h (fun b73 h => ?_) (fun b73 h => ?_)
   ·refine sr mx [] H (fun _ => .o (Qa (.nilsl (R := rI)))<|.o (Qa .k)<|.n) fun _ a w H => ?_
    replace H : St _ _ _ [_,_] [_] _ _ := (H.pick [0,1]).selA [0] rfl
    refine wp_ret ?_
    obtain rfl := sj h
    exact rt undef [] hpl H (.tmp z0 (.tmp z1 .nil))
   refine wp_skip (k63 _ _ ?_)
   refine wp_seq_k (fun _ k66 => ?_)
   refine wp_seq_k (fun _ k67 => ?_)
   replace H : St _ _ _ [_,_,_] [_,_] _ _ := ((H.pick [0,1,2]).selA [1,2,0] rfl).shareC 2 rfl
   have ⟨t89,ht89,h⟩ := bs h
   refine wr mx [v0 (box (QD.cs t89) (n6 6))] H (fun _ => .q 1 rfl<|.e [] [0] [2] rfl rfl rfl rfl (Qh QrF (QkI ht89) (.cons (.of z0)<|.cons (.of .k)<|.cons (.of .k)<|.nil))<|.n) fun _ a w H => ?_
   have H := H.to [3,4] [_,_] [_,_] rfl rfl
   refine k67 _ _ ?_
   refine sr mx [] H (fun _ => .q 0 rfl<|.u [1] rfl rfl (Qaw z0)<|.u [1] rfl rfl (QB QhR z0)<|.u [1] rfl rfl (Qa0 (R := rI) (u := (t89).cost) tok3 z0 rfl)<|.o (QV z0 .k)<|.n) fun _ a w H => ?_
   have H := H.to [4,5,6] [_,_,_] [_,_] rfl rfl
   refine wi H h (fun b72 h => ?_) (fun b72 h => ?_)
   ·refine sr mx [] H (fun _ => .o (Qa (.nilsl (R := rI)))<|.o (Qa .k)<|.n) fun _ a w H => ?_
    replace H : St _ _ _ [_,_] [_] _ _ := (H.pick [0,1]).selA [0] rfl
    refine wp_ret ?_
    obtain rfl := sj h
    exact rt undef [] hpl H (.tmp z0 (.tmp z1 .nil))
   refine wp_skip (k66 _ _ ?_)
   have ⟨t100,ht100,h⟩ := bs h
   have ⟨t101,ht101,h⟩ := bs h
   refine sr mx [v1 6 (fun v0 => own rI 3 t101 v0)] H (fun _ => .q 1 rfl<|.u [1] rfl rfl (Qaw z0)<|.u [1] rfl rfl (QB QkA z0)<|.q 5 rfl<|.o (QM ud22 z0)<|.u [1] rfl rfl (Qkx (j := (want_.length : Int)) Qhj tok3 z2 (.op z0) (sub_hi ht100) (by decide))<|.m [1] [2] rfl rfl rfl (QgV [box (QD.cs t89) (n6 6)] call51 (Qk2 ht101) (.cons (.aslH (L := ((t89).best).L) z0 (.head _) ht100 rfl rfl)<|.nil) (fun _ => QgT) (fun _ => flatN1 (QsF (by intro x T h; simp at h; (first | (subst h; exact QgT) | (rcases h with h | h | h <;> subst h <;> exact QgT))))))<|.ud (f := fun v => tv v) 6 rfl [] rfl rfl (Qa z0)<|.o (Qa .k)<|.n) fun _ a w H => ?_
   replace H : St _ _ _ [_,_,_] [_,_] _ _ := (H.pick [6,7,8]).selA [0,2] rfl
   refine wp_ret ?_
   replace H : St _ _ _ [_,_] [_] _ _ := ((H.selA [1,0] rfl).shareO 1 rfl).pick [0,3]
   obtain rfl := sj h
   exact rt undef [] hpl H (.tmp z0 (.tmp z1 .nil))
  refine wp_block ?_
  refine QZ _ (fun (s40 : Int × Int) a w => St M w0 102 [(59,tsl Ql (x_).Kinds),(60,ti ((x_).Kinds.length : Int)),(61,ti s40.1),(12,ti s40.2),(9,tv (n6 6)),(1,tsl rI want_)] [glo,own QaY 4 p36 (n6 4),box ([tsl Qj t17.1,tsl rI want_,tvs (n6 4)] ++ Qx.cs zz6 ++ Qx.cs zz6 ++ [ti (-1:Int)]) (n6 6)] a w) _ _ he41 (H.pick [0,1,2,3,4,5]) ?_
  clear h
  intro s40 o a w K74 hI h ho k74
  have H := hI
  clear hI
  refine sr mx [] H (fun _ => .o (QV z2 z1)<|.n) fun _ a w H => ?_
  have H := H.to [0,1,2,3,4,5,6] [_,_,_,_,_,_,_] [_,_,_] rfl rfl
  refine wp_seq_k (fun _ k76 => ?_)
  refine wi H h (fun b84 h => ?_) (fun b84 h => ?_)
  ·refine wp_skip (k76 _ _ ?_)
   refine wp_seq_k (fun K77 k77 => ?_)
   refine wp_block ?_
   have ⟨t64,ht64,h⟩ := bs h
   refine sr mx [v1 3 (fun v0 => box (Ql.cs zz1) v0),v1 3 (fun v0 => box (Ql.cs t64) v0)] H (fun _ => .q 3 rfl<|.o (QH ud23 Q8 z2 z4 ht64)<|.o (Qr Q8 z0)<|.m [] [3] rfl rfl rfl (Q0 (R := Ql) (a := zz1) Q8 QiO)<|.o (Qa z3)<|.e [] [3] [4] rfl rfl rfl rfl (QQ (R := Ql) (a := t64) Q8 z1 z2 (leb rfl))<|.n) fun _ a w H => ?_
   replace H : St _ _ _ [_,_,_,_,_,_,_,_] [_,_,_] _ _ := ((((H.pick [3,4,6,7,8,9,10,11]).selA [3,0,1,2] rfl).shareB 0 rfl).add 0 rfl (fun _ _ _ h => h.2)).pick [0,3,4,5,6,7,8,9]
   have ⟨t71,ht71,h⟩ := bs h
   refine sr mx [] H (fun _ => .q 6 rfl<|.u [2] rfl rfl (Qaw z0)<|.u [2] rfl rfl (QB Qmt z0)<|.u [2] rfl rfl (Qaj (u := (n6 4)) Qqf z0 rfl)<|.q 5 rfl<|.u [1] rfl rfl (QdB QoT tok4 z1 z0 ht71)<|.u [1] rfl rfl (Qmr tok4 z0 ht71)<|.q 0 rfl<|.g rfl rfl bq0 (fun _ => Qw z13)<|.g rfl rfl bq1 (fun hc => QdU (.cond z0 hc) .k)<|.o (QU z2 (fun hp => (.cond z0 (beqT hp))))<|.n) fun _ a w H => ?_
   have H := H.to [3,10,11,13,14,15,16,17,18] [_,_,_,_,_,_,_,_,_] [_,_,_] rfl rfl
   have ⟨p81,hp81,h⟩ := bs h
   have hJp81 : ∀ a w,St M w0 102 [(12,ti p81),(59,tsl Ql (x_).Kinds),(60,ti ((x_).Kinds.length : Int)),(61,ti s40.1),(9,tv (n6 6)),(1,tsl rI want_)] [glo,own QaY 4 p36 (n6 4),box ([tsl Qj t17.1,tsl rI want_,tvs (n6 4)] ++ Qx.cs zz6 ++ Qx.cs zz6 ++ [ti (-1:Int)]) (n6 6)] a w → K77 a w := by
    intro a w H
    refine k77 _ _ ?_
    refine wr mx [] H (fun _ => .o (QW z3 .k)<|.q 0 rfl<|.n) fun _ a w H => ?_
    have H := H.to [1,2,3,4,5,6] [_,_,_,_,_,_] [_,_,_] rfl rfl
    exact k74 _ _ _ (sj h).symm (H.pick [2,3,0,1,4,5])
   replace h := hp81
   clear hp81
   refine QnH 1 H rfl (fun b83 => ?_) (fun b83 => ?_)
   ·replace h := QlL b83 h
    refine wr mx [] H (fun _ => .q 6 rfl<|.o (Qe QlU z3)<|.o (Qf (u := (t64).Hi) tok3 z0 rfl)<|.o (Qe QlT z5)<|.o (Qf (u := (t64).Lo) tok3 z0 rfl)<|.o (QcN z2 z0)<|.o (QW z0 .k)<|.o (QmO z6 z0)<|.o (Qa z0)<|.n) fun _ a w H => ?_
    have H := H.to [8,9,12,13,14,15,16] [_,_,_,_,_,_,_] [_,_,_] rfl rfl
    obtain rfl := sj h
    exact hJp81 _ _ (H.pick [0,2,3,4,5,6])
   replace h := QlM b83 h
   refine wp_skip ?_
   obtain rfl := sj h
   exact hJp81 _ _ (H.pick [6,3,4,5,7,8])
  refine wp_exit ?_
  exact hJp62 _ _ _ (ho _ (sj h).symm) (H.pick [4,5,6])
 refine wp_block ?_
 refine QZ _ (fun (s14 : Int × List Bool) a w => St M w0 102 [(41,tsl Qj t17.1),(42,ti (t17.1.length : Int)),(43,ti s14.1),(9,tv (n6 6)),(2,tptr (Qk.cs x_)),(1,tsl rI want_)] [glo,own QaY 4 s14.2 (n6 4),box ([tsl Qj t17.1,tsl rI want_,tvs (n6 4)] ++ Qx.cs zz6 ++ Qx.cs zz6 ++ [ti (-1:Int)]) (n6 6)] a w) _ _ he15 (H.pick [0,1,2,4,5,6]) ?_
 clear h
 intro s14 o a w K85 hI h ho k85
 have H := hI
 clear hI
 refine sr mx [] H (fun _ => .o (QV z2 z1)<|.n) fun _ a w H => ?_
 have H := H.to [0,1,2,3,4,5,6] [_,_,_,_,_,_,_] [_,_,_] rfl rfl
 refine wp_seq_k (fun _ k87 => ?_)
 refine wi H h (fun b95 h => ?_) (fun b95 h => ?_)
 ·refine wp_skip (k87 _ _ ?_)
  refine wp_seq_k (fun K88 k88 => ?_)
  refine wp_block ?_
  have ⟨t45,ht45,h⟩ := bs h
  refine sr mx [v1 2 (fun v0 => box (Qj.cs zz5) v0),v1 2 (fun v0 => box (Qj.cs t45) v0)] H (fun _ => .o (QH ud31 QaM z1 z3 ht45)<|.o (Qr QaM z0)<|.m [] [3] rfl rfl rfl (Q0 (R := Qj) (a := zz5) QaM QqP)<|.e [] [3] [4] rfl rfl rfl rfl (QQ (R := Qj) (a := t45) QaM z0 z1 (leb rfl))<|.n) fun _ a w H => ?_
  replace H : St _ _ _ [_,_,_,_,_,_,_] [_,_,_] _ _ := ((((H.pick [2,4,5,6,7,8,9]).selA [3,0,1,2] rfl).shareB 0 rfl).add 0 rfl (fun _ _ _ h => h.2)).pick [0,3,4,5,6,7,8]
  refine sr mx [] H (fun _ => .o (Qe QeQ z0)<|.o (Qf (u := (t45).B) tok3 z0 rfl)<|.o (QaZ z0 .k)<|.n) fun _ a w H => ?_
  have H := H.to [2,3,4,5,6,7,8,9] [_,_,_,_,_,_,_,_] [_,_,_] rfl rfl
  have ⟨p92,hp92,h⟩ := bs h
  have hJp92 : ∀ a w,St M w0 102 [(41,tsl Qj t17.1),(42,ti (t17.1.length : Int)),(43,ti s14.1),(9,tv (n6 6)),(2,tptr (Qk.cs x_)),(1,tsl rI want_)] [glo,box ([tsl Qj t17.1,tsl rI want_,tvs (n6 4)] ++ Qx.cs zz6 ++ Qx.cs zz6 ++ [ti (-1:Int)]) (n6 6),own QaY 4 p92 (n6 4)] a w → K88 a w := by
   intro a w H
   refine k88 _ _ ?_
   refine wr mx [] H (fun _ => .o (QW z2 .k)<|.q 0 rfl<|.n) fun _ a w H => ?_
   have H := H.to [1,2,3,4,5,6] [_,_,_,_,_,_] [_,_,_] rfl rfl
   exact k85 _ _ _ (sj h).symm ((H.pick [1,2,0,3,4,5]).selA [0,2,1] rfl)
  replace h := hp92
  clear hp92
  refine wi H h (fun b94 h => ?_) (fun b94 h => ?_)
  ·have ⟨t56s,ht56s,h⟩ := bs h
   refine wr mx [v0 (own QaY 4 t56s (n6 4))] H (fun _ => .q 5 rfl<|.u [2] rfl rfl (Qaw z0)<|.u [2] rfl rfl (QB Qmt z0)<|.u [2] rfl rfl (Qaj (u := (n6 4)) Qqf z0 rfl)<|.o (Qe QeQ z5)<|.o (Qf (u := (t45).B) tok3 z0 rfl)<|.u [1] rfl rfl (QmW QoT tok4 z2 z0 ht56s)<|.e [] [1] [3] rfl rfl rfl rfl (Qoe tok4 z0 .k ht56s)<|.n) fun _ a w H => ?_
   have H := H.to [3,9,10,11,12,13,14] [_,_,_,_,_,_,_] [_,_,_] rfl rfl
   obtain rfl := sj h
   exact hJp92 _ _ (H.pick [1,2,3,4,5,6])
  refine wp_skip ?_
  obtain rfl := sj h
  exact hJp92 _ _ ((H.pick [2,3,4,5,6,7]).selA [0,2,1] rfl)
 refine wp_exit ?_
 exact hJp36 _ _ _ (ho _ (sj h).symm) (H.pick [4,5,6])

/- (diorama/counts.Limit).valid -/
noncomputable def Qbx (l_ : Qd) (n_ : Int) : Option (Bool) := (some ((((((decide ((l_).A ≥ (0:Int))) && (decide ((l_).A < n_))) && (decide ((l_).B ≥ (-1:Int)))) && (decide ((l_).B < n_))) && (decide ((l_).Mul ≥ (0:Int)))) && (decide ((l_).Mul ≤ (65536:Int)))))
theorem Qg0 {l_ : Qd} {n_ : Int} {r : Bool} (h : Qbx l_ n_ = some r) : FnOk Tryz.prog 42 [Qj.ty l_,ti n_] [] (fun _ => []) (fun _ => tb r) := by
 unfold Qbx at h
 refine fe Tryz.func42 Tryz.ntmps42 fun M0 M w0 a hpl H => ?_
 replace H : St M w0 35 [(0,Qj.ty l_),(1,ti n_)] [] a w0 := H
 refine sr mx [] H (fun _ => .o (QT (R := Qj) (u := l_) z0)<|.o (Qa .k)<|.n) fun _ a w H => ?_
 have H := H.to [0,3] [_,_] [] rfl rfl
 refine sr mx [] H (fun _ => .o (Qe Qgc z0)<|.o (Qf (u := (l_).A) tok3 z0 rfl)<|.o (QaZ z0 .k)<|.q 0 rfl<|.g rfl rfl bq0 (fun _ => Qe Qgc z4)<|.g rfl rfl bq1 (fun hc => Qf (u := (l_).A) tok3 (.cond z0 hc) rfl)<|.g rfl rfl bq2 (fun _ => Qw z7)<|.g rfl rfl bq3 (fun hc => QV (.cond z1 hc) (.cond z0 hc))<|.o (QU z4 (fun hp => (.cond z0 (beqT hp))))<|.q 0 rfl<|.g rfl rfl bq0 (fun _ => Qe QeQ z10)<|.g rfl rfl bq1 (fun hc => Qf (u := (l_).B) tok3 (.cond z0 hc) rfl)<|.g rfl rfl bq2 (fun hc => QaZ (.cond z0 hc) .k)<|.o (QU z3 (fun hp => (.cond z0 (beqT hp))))<|.q 0 rfl<|.g rfl rfl bq0 (fun _ => Qe QeQ z15)<|.g rfl rfl bq1 (fun hc => Qf (u := (l_).B) tok3 (.cond z0 hc) rfl)<|.g rfl rfl bq2 (fun _ => Qw z18)<|.g rfl rfl bq3 (fun hc => QV (.cond z1 hc) (.cond z0 hc))<|.o (QU z4 (fun hp => (.cond z0 (beqT hp))))<|.q 0 rfl<|.g rfl rfl bq0 (fun _ => Qe Qgd z21)<|.g rfl rfl bq1 (fun hc => Qf (u := (l_).Mul) tok3 (.cond z0 hc) rfl)<|.g rfl rfl bq2 (fun hc => QaZ (.cond z0 hc) .k)<|.o (QU z3 (fun hp => (.cond z0 (beqT hp))))<|.q 0 rfl<|.g rfl rfl bq0 (fun _ => Qe Qgd z26)<|.g rfl rfl bq1 (fun hc => Qf (u := (l_).Mul) tok3 (.cond z0 hc) rfl)<|.g rfl rfl bq2 (fun hc => QdU (.cond z0 hc) .k)<|.o (QU z3 (fun hp => (.cond z0 (beqT hp))))<|.o (Qa z0)<|.n) fun _ a w H => ?_
 have H := H.to [30] [_] [] rfl rfl
 refine wp_ret ?_
 obtain rfl := sj h
 exact rt undef [] hpl H (.tmp z0 .nil)

/- diorama/counts.Holds$1 -/
noncomputable def Qdl (n_ : Int) : Option (Bool) := (Qdk n_).bind fun t4 => (some (!t4))
theorem Qmd {n_ : Int} {r : Bool} (h : Qdl n_ = some r) : FnOk Tryz.prog 44 [ti n_] [] (fun _ => []) (fun _ => tb r) := by
 unfold Qdl at h
 refine fe Tryz.func44 Tryz.ntmps44 fun M0 M w0 a hpl H => ?_
 replace H : St M w0 6 [(0,ti n_)] [] a w0 := H
 refine sr mx [] H (fun _ => .o (Qa .k)<|.n) fun _ a w H => ?_
 have H := H.to [1] [_] [] rfl rfl
 have ⟨t4,ht4,h⟩ := bs h
 refine sr mx [] H (fun _ => .q 0 rfl<|.o (Qh QrD (QiK ht4) (.cons (.of z0)<|.nil))<|.o (Qag z0)<|.o (Qa z0)<|.n) fun _ a w H => ?_
 have H := H.to [3] [_] [] rfl rfl
 refine wp_ret ?_
 obtain rfl := sj h
 exact rt undef [] hpl H (.tmp z0 .nil)

/- (diorama/counts.Limit).holds -/
noncomputable def Qbe (l_ : Qd) (counts_ : (List Int)) : Option (Bool) := (if (l_).Least = true then (idx counts_ (l_).A).bind fun t10 => (QaC l_ counts_).bind fun t14 => (some (decide (t10 ≥ t14))) else (idx counts_ (l_).A).bind fun t19 => (QaC l_ counts_).bind fun t23 => (some (decide (t19 ≤ t23))))
theorem Qg1 {l_ : Qd} {counts_ : (List Int)} {r : Bool} (h : Qbe l_ counts_ = some r) : FnOk Tryz.prog 46 [Qj.ty l_,tsl rI counts_] [] (fun _ => []) (fun _ => tb r) := by
 unfold Qbe at h
 refine fe Tryz.func46 Tryz.ntmps46 fun M0 M w0 a hpl H => ?_
 replace H : St M w0 25 [(0,Qj.ty l_),(1,tsl rI counts_)] [] a w0 := H
 refine sr mx [] H (fun _ => .o (QT (R := Qj) (u := l_) z0)<|.o (Qa .k)<|.n) fun _ a w H => ?_
 have H := H.to [0,3] [_,_] [] rfl rfl
 refine wp_seq_k (fun _ k2 => ?_)
 refine sr mx [] H (fun _ => .o (Qe QlS z0)<|.o (Qf (u := (l_).Least) tok4 z0 rfl)<|.n) fun _ a w H => ?_
 have H := H.to [1,2,3] [_,_,_] [] rfl rfl
 refine wi H h (fun b6 h => ?_) (fun b6 h => ?_)
 ·have ⟨t10,ht10,h⟩ := bs h
  have ⟨t14,ht14,h⟩ := bs h
  refine sr mx [] H (fun _ => .q 2 rfl<|.o (Qe Qgc z2)<|.o (Qf (u := (l_).A) tok3 z0 rfl)<|.o (QH ud22 tok3 z2 z0 ht10)<|.o (Qr tok3 z0)<|.o (Qr QaM z6)<|.q 8 rfl<|.o (Qh Qpq (QeS ht14) (.cons (.of z1)<|.cons (.of z0)<|.nil))<|.o (QaZ z3 z0)<|.o (Qa z0)<|.n) fun _ a w H => ?_
  have H := H.to [9] [_] [] rfl rfl
  refine wp_ret ?_
  obtain rfl := sj h
  exact rt undef [] hpl H (.tmp z0 .nil)
 refine wp_skip (k2 _ _ ?_)
 have ⟨t19,ht19,h⟩ := bs h
 have ⟨t23,ht23,h⟩ := bs h
 refine sr mx [] H (fun _ => .q 2 rfl<|.o (Qe Qgc z2)<|.o (Qf (u := (l_).A) tok3 z0 rfl)<|.o (QH ud22 tok3 z2 z0 ht19)<|.o (Qr tok3 z0)<|.o (Qr QaM z6)<|.q 8 rfl<|.o (Qh Qpq (QeS ht23) (.cons (.of z1)<|.cons (.of z0)<|.nil))<|.o (QdU z3 z0)<|.o (Qa z0)<|.n) fun _ a w H => ?_
 have H := H.to [9] [_] [] rfl rfl
 refine wp_ret ?_
 obtain rfl := sj h
 exact rt undef [] hpl H (.tmp z0 .nil)

/- diorama/counts.Holds -/
noncomputable def QaV (l_ : Qd) (counts_ : (List Int)) : Option (Bool) := (Qbx l_ (counts_.length : Int)).bind fun t8 => (opt (t8 == true) (QaB counts_ (fun x0 => Qdl x0)) default).bind fun t11 => (opt ((t8 && (!t11)) == true) (Qbe l_ counts_) default).bind fun t17 => (some ((t8 && (!t11)) && t17))
theorem Qes {l_ : Qd} {counts_ : (List Int)} {r : Bool} (h : QaV l_ counts_ = some r) : FnOk Tryz.prog 21 [Qj.ty l_,tsl rI counts_] [] (fun _ => []) (fun _ => tb r) := by
 unfold QaV at h
 refine fe Tryz.func21 Tryz.ntmps21 fun M0 M w0 a hpl H => ?_
 replace H : St M w0 19 [(0,Qj.ty l_),(1,tsl rI counts_)] [] a w0 := H
 refine sr mx [] H (fun _ => .o (QT (R := Qj) (u := l_) z0)<|.o (Qa .k)<|.n) fun _ a w H => ?_
 have H := H.to [0,3] [_,_] [] rfl rfl
 have ⟨t8,ht8,h⟩ := bs h
 have ⟨t11,ht11,h⟩ := bs h
 have ⟨t17,ht17,h⟩ := bs h
 refine sr mx [] H (fun _ => .o (Qr QaM z0)<|.q 2 rfl<|.o (QM ud22 z0)<|.o (Qh QrB (Qg0 ht8) (.cons (.of z2)<|.cons (.of z0)<|.nil))<|.q 0 rfl<|.g rfl rfl bq0 (fun _ => Qw z6)<|.g rfl rfl bq1 (fun hc => Qh QrC (Qfw (Q6 ht11 hc)) (.cons (.of (.cond z0 hc))<|.cons (.of (Fct.weak .fnE (QbS call44 (fun _ _ hq => Qmd hq))))<|.nil))<|.g rfl rfl bq2 (fun hc => Qag (.cond z0 hc))<|.o (QU z3 (fun hp => (.cond z0 (beqT hp))))<|.q 0 rfl<|.g rfl rfl bq0 (fun _ => Qr QaM z10)<|.g rfl rfl bq1 (fun _ => Qw z12)<|.g rfl rfl bq2 (fun hc => Qh QrE (Qg1 (Q6 ht17 hc)) (.cons (.of (.cond z1 hc))<|.cons (.of (.cond z0 hc))<|.nil))<|.o (QU z3 (fun hp => (.cond z0 (beqT hp))))<|.o (Qa z0)<|.n) fun _ a w H => ?_
 have H := H.to [14] [_] [] rfl rfl
 refine wp_ret ?_
 obtain rfl := sj h
 exact rt undef [] hpl H (.tmp z0 .nil)

/- diorama/dioramalaw13.example -/
noncomputable def Qcu (least_ : Int) : Option (Qg) := (some (Qg.mk (0:Int) [(Qi.mk ([97] : Str) (1:Int) (2:Int) [(Qb.mk ([105,100] : Str) ([] : Str) ([] : Str) (0:Int) (0:Int) (0:Int) ([] : (List Str)) ([] : (List Int)))]),(Qi.mk ([98] : Str) least_ (9:Int) [(Qb.mk ([105,100] : Str) ([] : Str) ([] : Str) (0:Int) (0:Int) (0:Int) ([] : (List Str)) ([] : (List Int))),(Qb.mk ([111,102] : Str) ([97] : Str) ([] : Str) (1:Int) (0:Int) (4:Int) ([] : (List Str)) ([] : (List Int)))])] ([] : (List Qu)) ([] : (List Qo))))
theorem Qfd {least_ : Int} {r : Qg} (h : Qcu least_ = some r) : FnOk Tryz.prog 26 [ti least_] [] (fun _ => []) (fun _ => Qk.ty r) := by
 unfold Qcu at h
 refine fe Tryz.func26 Tryz.ntmps26 fun M0 M w0 a hpl H => ?_
 replace H : St M w0 17 [(0,ti least_)] [] a w0 := H
 refine sr mx [v1 0 (fun v0 => box (Qk.cs zz4) v0)] H (fun _ => .m [] [0] rfl rfl rfl (Q0 (R := Qk) (a := zz4) QaG QoR)<|.n) fun n0 a w H => ?_
 have H := H.to [0,1] [_,_] [_] rfl rfl
 refine sr mx [v1 3 (fun v0 => box (Ql.cs zz1) v0),v1 3 (fun v0 => box (Ql.cs (Qi.mk ([97] : Str) (1:Int) (2:Int) [(Qb.mk ([105,100] : Str) ([] : Str) ([] : Str) (0:Int) (0:Int) (0:Int) ([] : (List Str)) ([] : (List Int)))])) v0)] H (fun _ => .p (T := Qc.ty (Qb.mk ([105,100] : Str) ([] : Str) ([] : Str) (0:Int) (0:Int) (0:Int) ([] : (List Str)) ([] : (List Int)))) rfl (QY ud61 pl61 zv61 zc61 (.cons (R := rS) (u := ([105,100] : Str)) rfl .k (leb rfl)<|.nil _))<|.o (QE (R := Qc) (us := [(Qb.mk ([105,100] : Str) ([] : Str) ([] : Str) (0:Int) (0:Int) (0:Int) ([] : (List Str)) ([] : (List Int)))]) ud53 QR (.cons z0<|.nil _) rfl (leb rfl))<|.p (T := Ql.ty (Qi.mk ([97] : Str) (1:Int) (2:Int) [(Qb.mk ([105,100] : Str) ([] : Str) ([] : Str) (0:Int) (0:Int) (0:Int) ([] : (List Str)) ([] : (List Int)))])) rfl (QY Tryz.underlying55 pl55 zv55 zc55 (.cons (R := rS) (u := ([97] : Str)) rfl .k (leb rfl)<|.cons (R := rI) (u := (1:Int)) rfl .k (leb rfl)<|.cons (R := rI) (u := (2:Int)) rfl .k (leb rfl)<|.cons (R := (rSl Qc)) (u := [(Qb.mk ([105,100] : Str) ([] : Str) ([] : Str) (0:Int) (0:Int) (0:Int) ([] : (List Str)) ([] : (List Int)))]) rfl z0 (leb rfl)<|.nil _))<|.m [] [1] rfl rfl rfl (Q0 (R := Ql) (a := zz1) Q8 QiO)<|.e [] [1] [2] rfl rfl rfl rfl (QQ (R := Ql) (a := (Qi.mk ([97] : Str) (1:Int) (2:Int) [(Qb.mk ([105,100] : Str) ([] : Str) ([] : Str) (0:Int) (0:Int) (0:Int) ([] : (List Str)) ([] : (List Int)))])) Q8 z0 z1 (leb rfl))<|.n) fun _ a w H => ?_
 replace H : St _ _ _ [_,_,_] [_] _ _ := ((((H.pick [3,4,5]).selA [1,0] rfl).shareB 0 rfl).add 0 rfl (fun _ _ _ h => h.2)).pick [0,3,4]
 refine sr mx [v1 5 (fun v0 => box (Ql.cs zz1) v0),v1 5 (fun v0 => box (Ql.cs (Qi.mk ([98] : Str) least_ (9:Int) [(Qb.mk ([105,100] : Str) ([] : Str) ([] : Str) (0:Int) (0:Int) (0:Int) ([] : (List Str)) ([] : (List Int))),(Qb.mk ([111,102] : Str) ([97] : Str) ([] : Str) (1:Int) (0:Int) (4:Int) ([] : (List Str)) ([] : (List Int)))])) v0)] H (fun _ => .q 2 rfl<|.p (T := Qc.ty (Qb.mk ([105,100] : Str) ([] : Str) ([] : Str) (0:Int) (0:Int) (0:Int) ([] : (List Str)) ([] : (List Int)))) rfl (QY ud61 pl61 zv61 zc61 (.cons (R := rS) (u := ([105,100] : Str)) rfl .k (leb rfl)<|.nil _))<|.p (T := Qc.ty (Qb.mk ([111,102] : Str) ([97] : Str) ([] : Str) (1:Int) (0:Int) (4:Int) ([] : (List Str)) ([] : (List Int)))) rfl (QY ud61 pl61 zv61 zc61 (.cons (R := rS) (u := ([111,102] : Str)) rfl .k (leb rfl)<|.cons (R := rI) (u := (1:Int)) rfl .k (leb rfl)<|.cons (R := rS) (u := ([97] : Str)) rfl .k (leb rfl)<|.cons (R := rI) (u := (4:Int)) rfl .k (leb rfl)<|.nil _))<|.o (QE (R := Qc) (us := [(Qb.mk ([105,100] : Str) ([] : Str) ([] : Str) (0:Int) (0:Int) (0:Int) ([] : (List Str)) ([] : (List Int))),(Qb.mk ([111,102] : Str) ([97] : Str) ([] : Str) (1:Int) (0:Int) (4:Int) ([] : (List Str)) ([] : (List Int)))]) ud53 QR (.cons z1<|.cons z0<|.nil _) rfl (leb rfl))<|.p (T := Ql.ty (Qi.mk ([98] : Str) least_ (9:Int) [(Qb.mk ([105,100] : Str) ([] : Str) ([] : Str) (0:Int) (0:Int) (0:Int) ([] : (List Str)) ([] : (List Int))),(Qb.mk ([111,102] : Str) ([97] : Str) ([] : Str) (1:Int) (0:Int) (4:Int) ([] : (List Str)) ([] : (List Int)))])) rfl (QY Tryz.underlying55 pl55 zv55 zc55 (.cons (R := rS) (u := ([98] : Str)) rfl .k (leb rfl)<|.cons (R := rI) (u := least_) rfl z3 (leb rfl)<|.cons (R := rI) (u := (9:Int)) rfl .k (leb rfl)<|.cons (R := (rSl Qc)) (u := [(Qb.mk ([105,100] : Str) ([] : Str) ([] : Str) (0:Int) (0:Int) (0:Int) ([] : (List Str)) ([] : (List Int))),(Qb.mk ([111,102] : Str) ([97] : Str) ([] : Str) (1:Int) (0:Int) (4:Int) ([] : (List Str)) ([] : (List Int)))]) rfl z0 (leb rfl)<|.nil _))<|.m [] [1] rfl rfl rfl (Q0 (R := Ql) (a := zz1) Q8 QiO)<|.e [] [1] [2] rfl rfl rfl rfl (QQ (R := Ql) (a := (Qi.mk ([98] : Str) least_ (9:Int) [(Qb.mk ([105,100] : Str) ([] : Str) ([] : Str) (0:Int) (0:Int) (0:Int) ([] : (List Str)) ([] : (List Int))),(Qb.mk ([111,102] : Str) ([97] : Str) ([] : Str) (1:Int) (0:Int) (4:Int) ([] : (List Str)) ([] : (List Int)))])) Q8 z0 z1 (leb rfl))<|.n) fun _ a w H => ?_
 replace H : St _ _ _ [_,_,_] [_] _ _ := ((((H.pick [5,6,7]).selA [1,0] rfl).shareB 0 rfl).add 0 rfl (fun _ _ _ h => h.2)).pick [0,3,4]
 refine sr mx [v0 (box (Qk.cs (Qg.mk (0:Int) [(Qi.mk ([97] : Str) (1:Int) (2:Int) [(Qb.mk ([105,100] : Str) ([] : Str) ([] : Str) (0:Int) (0:Int) (0:Int) ([] : (List Str)) ([] : (List Int)))]),(Qi.mk ([98] : Str) least_ (9:Int) [(Qb.mk ([105,100] : Str) ([] : Str) ([] : Str) (0:Int) (0:Int) (0:Int) ([] : (List Str)) ([] : (List Int))),(Qb.mk ([111,102] : Str) ([97] : Str) ([] : Str) (1:Int) (0:Int) (4:Int) ([] : (List Str)) ([] : (List Int)))])] ([] : (List Qu)) ([] : (List Qo)))) (n0 0))] H (fun _ => .o (Qr Q8 z1)<|.o (Qr Q8 z1)<|.o (QE (R := Ql) (us := [(Qi.mk ([97] : Str) (1:Int) (2:Int) [(Qb.mk ([105,100] : Str) ([] : Str) ([] : Str) (0:Int) (0:Int) (0:Int) ([] : (List Str)) ([] : (List Int)))]),(Qi.mk ([98] : Str) least_ (9:Int) [(Qb.mk ([105,100] : Str) ([] : Str) ([] : Str) (0:Int) (0:Int) (0:Int) ([] : (List Str)) ([] : (List Int))),(Qb.mk ([111,102] : Str) ([97] : Str) ([] : Str) (1:Int) (0:Int) (4:Int) ([] : (List Str)) ([] : (List Int)))])]) ud23 Q8 (.cons z1<|.cons z0<|.nil _) rfl (leb rfl))<|.p (T := Qk.ty (Qg.mk (0:Int) [(Qi.mk ([97] : Str) (1:Int) (2:Int) [(Qb.mk ([105,100] : Str) ([] : Str) ([] : Str) (0:Int) (0:Int) (0:Int) ([] : (List Str)) ([] : (List Int)))]),(Qi.mk ([98] : Str) least_ (9:Int) [(Qb.mk ([105,100] : Str) ([] : Str) ([] : Str) (0:Int) (0:Int) (0:Int) ([] : (List Str)) ([] : (List Int))),(Qb.mk ([111,102] : Str) ([97] : Str) ([] : Str) (1:Int) (0:Int) (4:Int) ([] : (List Str)) ([] : (List Int)))])] ([] : (List Qu)) ([] : (List Qo)))) rfl (QY Tryz.underlying27 pl27 zv27 zc27 (.cons (R := (rSl Ql)) (u := [(Qi.mk ([97] : Str) (1:Int) (2:Int) [(Qb.mk ([105,100] : Str) ([] : Str) ([] : Str) (0:Int) (0:Int) (0:Int) ([] : (List Str)) ([] : (List Int)))]),(Qi.mk ([98] : Str) least_ (9:Int) [(Qb.mk ([105,100] : Str) ([] : Str) ([] : Str) (0:Int) (0:Int) (0:Int) ([] : (List Str)) ([] : (List Int))),(Qb.mk ([111,102] : Str) ([97] : Str) ([] : Str) (1:Int) (0:Int) (4:Int) ([] : (List Str)) ([] : (List Int)))])]) rfl z0 (leb rfl)<|.nil _))<|.e [] [0] [1] rfl rfl rfl rfl (QQ (R := Qk) (a := (Qg.mk (0:Int) [(Qi.mk ([97] : Str) (1:Int) (2:Int) [(Qb.mk ([105,100] : Str) ([] : Str) ([] : Str) (0:Int) (0:Int) (0:Int) ([] : (List Str)) ([] : (List Int)))]),(Qi.mk ([98] : Str) least_ (9:Int) [(Qb.mk ([105,100] : Str) ([] : Str) ([] : Str) (0:Int) (0:Int) (0:Int) ([] : (List Str)) ([] : (List Int))),(Qb.mk ([111,102] : Str) ([97] : Str) ([] : Str) (1:Int) (0:Int) (4:Int) ([] : (List Str)) ([] : (List Int)))])] ([] : (List Qu)) ([] : (List Qo)))) QaG z6 z0 (leb rfl))<|.n) fun _ a w H => ?_
 have H := H.to [6] [_] [_] rfl rfl
 refine wp_ret ?_
 obtain rfl := sj h
 exact rt undef [] hpl H (.cell (R := Qk) (u := (Qg.mk (0:Int) [(Qi.mk ([97] : Str) (1:Int) (2:Int) [(Qb.mk ([105,100] : Str) ([] : Str) ([] : Str) (0:Int) (0:Int) (0:Int) ([] : (List Str)) ([] : (List Int)))]),(Qi.mk ([98] : Str) least_ (9:Int) [(Qb.mk ([105,100] : Str) ([] : Str) ([] : Str) (0:Int) (0:Int) (0:Int) ([] : (List Str)) ([] : (List Int))),(Qb.mk ([111,102] : Str) ([97] : Str) ([] : Str) (1:Int) (0:Int) (4:Int) ([] : (List Str)) ([] : (List Int)))])] ([] : (List Qu)) ([] : (List Qo)))) QaG z0 0 rfl rfl .nil)

/- diorama/counts.Clash$1 -/
noncomputable def Qet (x_ : Qd) (c0_ : Int) : Option (Bool) := (Qbx x_ c0_).bind fun t6 => (some (!t6))
theorem Qme {x_ : Qd} {c0_ : Int} {r : Bool} (h : Qet x_ c0_ = some r) : FnOk Tryz.prog 56 [Qj.ty x_,tptr (rI.cs c0_)] [] (fun _ => []) (fun _ => tb r) := by
 unfold Qet at h
 refine fe Tryz.func56 Tryz.ntmps56 fun M0 M w0 a hpl H => ?_
 replace H : St M w0 8 [(0,Qj.ty x_),(1,tptr (rI.cs c0_))] [] a w0 := H
 refine sr mx [] H (fun _ => .o (QT (R := Qj) (u := x_) z0)<|.o (Qa .k)<|.n) fun _ a w H => ?_
 have H := H.to [0,3] [_,_] [] rfl rfl
 have ⟨t6,ht6,h⟩ := bs h
 refine sr mx [] H (fun _ => .o (Qr QaM z0)<|.o (Qr tok3 z2)<|.o (Qh QrB (Qg0 ht6) (.cons (.of z1)<|.cons (.of z0)<|.nil))<|.o (Qag z0)<|.o (Qa z0)<|.n) fun _ a w H => ?_
 have H := H.to [4] [_] [] rfl rfl
 refine wp_ret ?_
 obtain rfl := sj h
 exact rt undef [] hpl H (.tmp z0 .nil)

/- slices.IndexFunc[[]diorama/counts.Limit,diorama/counts.Limit] -/
noncomputable def QbT (s_ : (List Qd)) (f_ : (Qd → Option Bool)) : Option (Int) := (QK (fun (s4 : Int) => ((if (decide (s4 < (s_.length : Int))) = true then (idx s_ s4).bind fun t14 => (f_ t14).bind fun t16 => (if t16 = true then (some (.inr (.inr s4))) else (some (.inl (IntKind.i64.wrap (s4 + (1:Int)))))) else (some (.inr (.inl ())))) : Option ((Int) ⊕ ((Unit) ⊕ (Int))))) (0:Int)).bind fun (e5 : (Unit) ⊕ (Int)) => (match e5 with | .inl _ => (some (-1:Int)) | .inr p23 => (some p23))
theorem QiQ {s_ : (List Qd)} {f_ : (Qd → Option Bool)} {r : Int} (h : QbT s_ f_ = some r) : FnOk Tryz.prog 88 [tsl Qj s_,Qm6.ty f_] [] (fun _ => []) (fun _ => ti r) := by
 unfold QbT at h
 refine fe Tryz.func88 Tryz.ntmps88 fun M0 M w0 a hpl H => ?_
 replace H : St M w0 19 [(0,tsl Qj s_),(1,Qm6.ty f_)] [] a w0 := H
 refine sr mx [] H (fun _ => .o (Qa .k)<|.n) fun _ a w H => ?_
 have H := H.to [1,2] [_,_] [] rfl rfl
 refine wp_seq_k (fun K2 k2 => ?_)
 refine sr mx [] H (fun _ => .q 0 rfl<|.o (QM ud31 z0)<|.o (Qw .k)<|.n) fun _ a w H => ?_
 have H := H.to [1,2,3,4] [_,_,_,_] [] rfl rfl
 have ⟨e5,he5,h⟩ := bs h
 have hJp22 : ∀ (p22 : Unit) a w,(.inl p22) = e5 → St M w0 19 [] [] a w → K2 a w := by
  intro p22 a w he H
  subst he
  simp only at h
  refine k2 _ _ ?_
  refine sr mx [] H (fun _ => .o (Qa .k)<|.n) fun _ a w H => ?_
  have H := H.to [0] [_] [] rfl rfl
  refine wp_ret ?_
  obtain rfl := sj h
  exact rt undef [] hpl H (.tmp z0 .nil)
 have hJp23 : ∀ (p23 : Int) a w,(.inr p23) = e5 → St M w0 19 [(4,ti p23)] [] a w → Ret Tryz.prog Tryz.f88 M0 [] w0 (fun _ => []) (fun _ => ti r) .ret a w := by
  intro p23 a w he H
  subst he
  simp only at h
  obtain rfl := sj h
  exact rt undef [] hpl H (.tmp z0 .nil)
 refine wp_block ?_
 refine QZ _ (fun (s4 : Int) a w => St M w0 19 [(7,ti (s_.length : Int)),(8,ti s4),(0,tsl Qj s_),(1,Qm6.ty f_)] [] a w) _ _ he5 (H.pick [0,1,2,3]) ?_
 clear h
 intro s4 o a w K25 hI h ho k25
 have H := hI
 clear hI
 refine sr mx [] H (fun _ => .o (QV z1 z0)<|.n) fun _ a w H => ?_
 have H := H.to [0,1,2,3,4] [_,_,_,_,_] [] rfl rfl
 refine wp_seq_k (fun _ k27 => ?_)
 refine wi H h (fun b33 h => ?_) (fun b33 h => ?_)
 ·refine wp_skip (k27 _ _ ?_)
  refine wp_seq_k (fun _ k28 => ?_)
  refine wp_block ?_
  refine sr mx [] H (fun _ => .q 2 rfl<|.o (Qa z0)<|.n) fun _ a w H => ?_
  have H := H.to [1,3,4,5,6] [_,_,_,_,_] [] rfl rfl
  have ⟨t14,ht14,h⟩ := bs h
  have ⟨t16,ht16,h⟩ := bs h
  refine sr mx [] H (fun _ => .q 4 rfl<|.q 4 rfl<|.q 2 rfl<|.o (QH ud31 QaM z1 z0 ht14)<|.o (Qr QaM z0)<|.o (QbV (u := t14) z4 (.cons (.of z0)<|.nil) ht16)<|.n) fun _ a w H => ?_
  have H := H.to [5,6,7,8,9,10] [_,_,_,_,_,_] [] rfl rfl
  refine wi H h (fun b32 h => ?_) (fun b32 h => ?_)
  ·refine sr mx [] H (fun _ => .q 1 rfl<|.o (Qa z0)<|.n) fun _ a w H => ?_
   have H := H.to [1] [_] [] rfl rfl
   refine wp_ret ?_
   exact hJp23 _ _ _ (ho _ (sj h).symm) (H.pick [0])
  refine wp_skip (k28 _ _ ?_)
  refine wr mx [] H (fun _ => .o (QW z3 .k)<|.q 0 rfl<|.n) fun _ a w H => ?_
  have H := H.to [1,4,5,6] [_,_,_,_] [] rfl rfl
  exact k25 _ _ _ (sj h).symm (H.pick [1,0,2,3])
 refine wp_exit ?_
 exact hJp22 _ _ _ (ho _ (sj h).symm) (H.pick [])

/- slices.ContainsFunc[[]diorama/counts.Limit,diorama/counts.Limit] -/
noncomputable def QaW (s_ : (List Qd)) (f_ : (Qd → Option Bool)) : Option (Bool) := (QbT s_ f_).bind fun t7 => (some (decide (t7 ≥ (0:Int))))
theorem QeT {s_ : (List Qd)} {f_ : (Qd → Option Bool)} {r : Bool} (h : QaW s_ f_ = some r) : FnOk Tryz.prog 55 [tsl Qj s_,Qm6.ty f_] [] (fun _ => []) (fun _ => tb r) := by
 unfold QaW at h
 refine fe Tryz.func55 Tryz.ntmps55 fun M0 M w0 a hpl H => ?_
 replace H : St M w0 9 [(0,tsl Qj s_),(1,Qm6.ty f_)] [] a w0 := H
 refine sr mx [] H (fun _ => .o (Qa .k)<|.n) fun _ a w H => ?_
 have H := H.to [1,2] [_,_] [] rfl rfl
 have ⟨t7,ht7,h⟩ := bs h
 refine sr mx [] H (fun _ => .q 0 rfl<|.q 2 rfl<|.o (Qh call88 (QiQ ht7) (.cons (.of z1)<|.cons (.of z0)<|.nil))<|.o (QaZ z0 .k)<|.o (Qa z0)<|.n) fun _ a w H => ?_
 have H := H.to [4] [_] [] rfl rfl
 refine wp_ret ?_
 obtain rfl := sj h
 exact rt undef [] hpl H (.tmp z0 .nil)

/- (diorama/counts.Limit).up -/
noncomputable def Qd1 (l_ : Qd) (at_ : Qm) : Option (Int × Int) := (if ((decide ((l_).B < (0:Int))) && (l_).Least) = true then (some ((l_).A,(l_).Mul)) else (if (l_).Least = true then (idx (at_).L (l_).B).bind fun t27 => (some ((l_).A,(IntKind.i64.wrap ((l_).Mul * t27)))) else (if ((decide ((l_).B ≥ (0:Int))) && (decide ((l_).Mul > (0:Int)))) = true then (idx (at_).L (l_).A).bind fun t43 => (nz (l_).Mul).bind fun _ => (some ((l_).B,(IntKind.i64.wrap (Int.tdiv (IntKind.i64.wrap ((IntKind.i64.wrap (t43 + (l_).Mul)) - (1:Int))) (l_).Mul)))) else (some ((l_).A,(0:Int))))))
theorem Qlw {l_ : Qd} {at_ : Qm} {r : Int × Int} (h : Qd1 l_ at_ = some r) : FnOk Tryz.prog 89 [Qj.ty l_,Qx.ty at_] [] (fun _ => []) (fun _ => ttup [ti r.1,ti r.2]) := by
 unfold Qd1 at h
 refine fe Tryz.func89 Tryz.ntmps89 fun M0 M w0 a hpl H => ?_
 replace H : St M w0 54 [(0,Qj.ty l_),(1,Qx.ty at_)] [] a w0 := H
 refine sr mx [] H (fun _ => .o (QT (R := Qj) (u := l_) z0)<|.o (QT (R := Qx) (u := at_) z2)<|.o (Qa .k)<|.o (Qa .k)<|.n) fun _ a w H => ?_
 have H := H.to [0,1] [_,_] [] rfl rfl
 refine wp_seq_k (fun _ k2 => ?_)
 refine wp_block ?_
 refine sr mx [] H (fun _ => .o (Qe QeQ z0)<|.o (Qf (u := (l_).B) tok3 z0 rfl)<|.o (QV z0 .k)<|.q 0 rfl<|.g rfl rfl bq0 (fun _ => Qe QlS z4)<|.g rfl rfl bq1 (fun hc => Qf (u := (l_).Least) tok4 (.cond z0 hc) rfl)<|.o (QU z2 (fun hp => (.cond z0 (beqT hp))))<|.o (Qa z0)<|.n) fun _ a w H => ?_
 have H := H.to [7,8,9] [_,_,_] [] rfl rfl
 refine wi H h (fun b12 h => ?_) (fun b12 h => ?_)
 ·refine sr mx [] H (fun _ => .o (Qe Qgc z1)<|.o (Qf (u := (l_).A) tok3 z0 rfl)<|.o (Qe Qgd z3)<|.o (Qf (u := (l_).Mul) tok3 z0 rfl)<|.o (Qa z2)<|.o (Qa z1)<|.n) fun _ a w H => ?_
  have H := H.to [4,5] [_,_] [] rfl rfl
  refine wp_ret ?_
  obtain rfl := sj h
  exact rt undef [] hpl H (.tmp z0 (.tmp z1 .nil))
 refine sr mx [] H (fun _ => .o (Qe QlS z1)<|.o (Qf (u := (l_).Least) tok4 z0 rfl)<|.o (Qa z0)<|.n) fun _ a w H => ?_
 have H := H.to [2,4,5] [_,_,_] [] rfl rfl
 refine wi H h (fun b11 h => ?_) (fun b11 h => ?_)
 ·have ⟨t27,ht27,h⟩ := bs h
  refine sr mx [] H (fun _ => .o (Qe Qgc z1)<|.o (Qf (u := (l_).A) tok3 z0 rfl)<|.o (Qe Qgd z3)<|.o (Qf (u := (l_).Mul) tok3 z0 rfl)<|.o (Qe QeQ z5)<|.o (Qf (u := (l_).B) tok3 z0 rfl)<|.o (Qpa (xs := (at_).L) Qhj tok3 z8 z0 rfl ht27)<|.o (Qr tok3 z0)<|.o (QmO z4 z0)<|.o (Qa z7)<|.o (Qa z1)<|.n) fun _ a w H => ?_
  have H := H.to [9,10] [_,_] [] rfl rfl
  refine wp_ret ?_
  obtain rfl := sj h
  exact rt undef [] hpl H (.tmp z0 (.tmp z1 .nil))
 refine sr mx [] H (fun _ => .o (Qe QeQ z1)<|.o (Qf (u := (l_).B) tok3 z0 rfl)<|.o (QaZ z0 .k)<|.q 0 rfl<|.g rfl rfl bq0 (fun _ => Qe Qgd z5)<|.g rfl rfl bq1 (fun hc => Qf (u := (l_).Mul) tok3 (.cond z0 hc) rfl)<|.g rfl rfl bq2 (fun hc => Qb8 (.cond z0 hc) .k)<|.o (QU z3 (fun hp => (.cond z0 (beqT hp))))<|.o (Qa z0)<|.n) fun _ a w H => ?_
 have H := H.to [8,10,11] [_,_,_] [] rfl rfl
 refine wi H h (fun b10 h => ?_) (fun b10 h => ?_)
 ·refine wp_seq_k (fun _ k8 => ?_)
  have ⟨t43,ht43,h⟩ := bs h
  have ⟨u51,hu51,h⟩ := bs h
  refine wr mx [] H (fun _ => .o (Qe QeQ z1)<|.o (Qf (u := (l_).B) tok3 z0 rfl)<|.o (Qe Qgc z3)<|.o (Qf (u := (l_).A) tok3 z0 rfl)<|.o (Qpa (xs := (at_).L) Qhj tok3 z6 z0 rfl ht43)<|.o (Qr tok3 z0)<|.o (Qe Qgd z7)<|.o (Qf (u := (l_).Mul) tok3 z0 rfl)<|.o (QW z2 z0)<|.o (QcN z0 .k)<|.o (Qe Qgd z11)<|.o (Qf (u := (l_).Mul) tok3 z0 rfl)<|.o (op_quo z2 z0 (nz_ne hu51))<|.o (Qa z11)<|.o (Qa z1)<|.n) fun _ a w H => ?_
  have H := H.to [13,14] [_,_] [] rfl rfl
  refine k8 _ _ ?_
  refine wp_ret ?_
  obtain rfl := sj h
  exact rt undef [] hpl H (.tmp z0 (.tmp z1 .nil))
 refine wp_skip (k2 _ _ ?_)
 refine sr mx [] H (fun _ => .o (Qe Qgc z1)<|.o (Qf (u := (l_).A) tok3 z0 rfl)<|.o (Qa z0)<|.o (Qa .k)<|.n) fun _ a w H => ?_
 have H := H.to [2,3] [_,_] [] rfl rfl
 refine wp_ret ?_
 obtain rfl := sj h
 exact rt undef [] hpl H (.tmp z0 (.tmp z1 .nil))

/- (diorama/counts.numbers).broken -/
noncomputable def Qcb (at_ : Qm) (l_ : Qd) : Option (Bool) := (Qbe l_ (at_).L).bind fun t7 => (some (!t7))
theorem Qjh {at_ : Qm} {l_ : Qd} {r : Bool} (h : Qcb at_ l_ = some r) : FnOk Tryz.prog 90 [Qx.ty at_,Qj.ty l_] [] (fun _ => []) (fun _ => tb r) := by
 unfold Qcb at h
 refine fe Tryz.func90 Tryz.ntmps90 fun M0 M w0 a hpl H => ?_
 replace H : St M w0 9 [(0,Qx.ty at_),(1,Qj.ty l_)] [] a w0 := H
 refine sr mx [] H (fun _ => .o (QT (R := Qx) (u := at_) z0)<|.o (QT (R := Qj) (u := l_) z2)<|.o (Qa .k)<|.n) fun _ a w H => ?_
 have H := H.to [0,1] [_,_] [] rfl rfl
 have ⟨t7,ht7,h⟩ := bs h
 refine sr mx [] H (fun _ => .o (Qr QaM z1)<|.o (Qm2 (L := (at_).L) Qhj tok3 z1 rfl (by decide) rfl)<|.o (Qh QrE (Qg1 ht7) (.cons (.of z1)<|.cons (.of z0)<|.nil))<|.o (Qag z0)<|.o (Qa z0)<|.n) fun _ a w H => ?_
 have H := H.to [4] [_] [] rfl rfl
 refine wp_ret ?_
 obtain rfl := sj h
 exact rt undef [] hpl H (.tmp z0 .nil)

/- diorama/counts.kept -/
noncomputable def Qd2 (l_ : (List Qd)) : Option (Bool) := (QK (fun (s6 : Bool × Qm) => ((if s6.1 = true then (QK (fun (s126 : Int × Bool × Qm) => ((if (decide (s126.1 < (l_.length : Int))) = true then (idx l_ s126.1).bind fun t14 => (Qd1 t14 s126.2.2).bind fun t19 => (if (decide (t19.2 > (65536:Int))) = true then (some (.inr (.inr false))) else (idx (s126.2.2).L t19.1).bind fun t26 => ((if (decide (t19.2 > t26)) = true then (idx (s126.2.2).L t19.1).bind fun t31 => (some (true,((s126.2.2).setI t19.1 t19.2))) else (some (s126.2.1,s126.2.2)))).bind fun (p171 : Bool × Qm) => (some (.inl ((IntKind.i64.wrap (s126.1 + (1:Int))),p171.1,p171.2)))) else (some (.inr (.inl (s126.2.1,s126.2.2))))) : Option ((Int × Bool × Qm) ⊕ ((Bool × Qm) ⊕ (Bool))))) ((0:Int),false,s6.2)).bind fun (e127 : (Bool × Qm) ⊕ (Bool)) => (match e127 with | .inl p158 => (some (.inl (p158.1,p158.2))) | .inr p159 => (some (.inr (.inr p159)))) else (some (.inr (.inl s6.2)))) : Option ((Bool × Qm) ⊕ ((Qm) ⊕ (Bool))))) (true,zz6)).bind fun (e7 : (Qm) ⊕ (Bool)) => (match e7 with | .inl p118 => (QaW l_ (fun x0 => Qcb p118 x0)).bind fun t36 => (some (!t36)) | .inr p119 => (some p119))
theorem QhU {l_ : (List Qd)} {r : Bool} (h : Qd2 l_ = some r) : FnOk Tryz.prog 57 [tsl Qj l_] [] (fun _ => []) (fun _ => tb r) := by
 unfold Qd2 at h
 refine fe Tryz.func57 Tryz.ntmps57 fun M0 M w0 a hpl H => ?_
 replace H : St M w0 38 [(0,tsl Qj l_)] [] a w0 := H
 refine sr mx [] H (fun _ => .o (Qa .k)<|.n) fun _ a w H => ?_
 have H := H.to [1] [_] [] rfl rfl
 refine sr mx [v1 0 (fun v0 => box (Qx.cs zz6) v0)] H (fun _ => .m [] [0] rfl rfl rfl (Q0 (R := Qx) (a := zz6) Qhb zok103)<|.n) fun n1 a w H => ?_
 have H := H.to [0,1] [_,_] [_] rfl rfl
 refine wp_seq_k (fun K4 k4 => ?_)
 refine sr mx [] H (fun _ => .o (Qa .k)<|.n) fun _ a w H => ?_
 have H := H.to [0,1,2] [_,_,_] [_] rfl rfl
 have ⟨e7,he7,h⟩ := bs h
 have hJp118 : ∀ (p118 : Qm) a w,(.inl p118) = e7 → St M w0 38 [(3,tv (n1 0)),(0,tsl Qj l_)] [box (Qx.cs p118) (n1 0)] a w → K4 a w := by
  intro p118 a w he H
  subst he
  simp only at h
  refine k4 _ _ ?_
  have ⟨t36,ht36,h⟩ := bs h
  refine sr mx [] H (fun _ => .q 1 rfl<|.u [0] rfl rfl (QeC (R := Qx) (u := p118) Qhb z1 rfl)<|.o (QtI (.cons z0<|.nil))<|.o (Qh QrG (QeT ht36) (.cons (.of z2)<|.cons (.of (Fct.weak z0 (tfn_bm call90 (fun _ _ hq => Qjh hq))))<|.nil))<|.o (Qag z0)<|.o (Qa z0)<|.n) fun _ a w H => ?_
  replace H : St _ _ _ [_] [] _ _ := (H.pick [5]).selA [] rfl
  refine wp_ret ?_
  obtain rfl := sj h
  exact rt undef [] hpl H (.tmp z0 .nil)
 have hJp119 : ∀ (p119 : Bool) a w,(.inr p119) = e7 → St M w0 38 [(2,tb p119)] [] a w → Ret Tryz.prog Tryz.f57 M0 [] w0 (fun _ => []) (fun _ => tb r) .ret a w := by
  intro p119 a w he H
  subst he
  simp only at h
  obtain rfl := sj h
  exact rt undef [] hpl H (.tmp z0 .nil)
 refine wp_block ?_
 refine QZ _ (fun (s6 : Bool × Qm) a w => St M w0 38 [(4,tb s6.1),(3,tv (n1 0)),(0,tsl Qj l_)] [box (Qx.cs s6.2) (n1 0)] a w) _ _ he7 (H.pick [0,1,2]) ?_
 clear h
 intro s6 o a w K121 hI h ho k121
 have H := hI
 clear hI
 refine wp_seq_k (fun _ k122 => ?_)
 refine sr mx [] H (fun _ => .q 0 rfl<|.n) fun _ a w H => ?_
 have H := H.to [0,2,3] [_,_,_] [_] rfl rfl
 refine wi H h (fun b176 h => ?_) (fun b176 h => ?_)
 ·refine wp_skip (k122 _ _ ?_)
  refine wp_block ?_
  refine sr mx [] H (fun _ => .o (Qa .k)<|.n) fun _ a w H => ?_
  have H := H.to [0,2,3] [_,_,_] [_] rfl rfl
  refine sr mx [] H (fun _ => .q 2 rfl<|.o (QM ud31 z0)<|.o (Qw .k)<|.n) fun _ a w H => ?_
  have H := H.to [0,1,2,3,4,5] [_,_,_,_,_,_] [_] rfl rfl
  have ⟨e127,he127,h⟩ := bs h
  have hJp158 : ∀ (p158 : Bool × Qm) a w,(.inl p158) = e127 → St M w0 38 [(4,tb p158.1),(3,tv (n1 0)),(0,tsl Qj l_)] [box (Qx.cs p158.2) (n1 0)] a w → K121 a w := by
   intro p158 a w he H
   subst he
   simp only at h
   exact k121 _ _ _ (sj h).symm (H.pick [0,1,2])
  have hJp159 : ∀ (p159 : Bool) a w,(.inr p159) = e127 → St M w0 38 [(2,tb p159)] [] a w → Ret Tryz.prog Tryz.f57 M0 [] w0 (fun _ => []) (fun _ => tb r) .ret a w := by
   intro p159 a w he H
   subst he
   simp only at h
   exact hJp119 _ _ _ (ho _ (sj h).symm) (H.pick [0])
  refine wp_block ?_
  refine QZ _ (fun (s126 : Int × Bool × Qm) a w => St M w0 38 [(10,tsl Qj l_),(11,ti (l_.length : Int)),(12,ti s126.1),(4,tb s126.2.1),(3,tv (n1 0)),(0,tsl Qj l_)] [box (Qx.cs s126.2.2) (n1 0)] a w) _ _ he127 (H.pick [0,1,2,3,4,5]) ?_
  clear h
  intro s126 o a w K160 hI h ho k160
  have H := hI
  clear hI
  refine sr mx [] H (fun _ => .o (QV z2 z1)<|.n) fun _ a w H => ?_
  have H := H.to [0,1,2,3,4,5,6] [_,_,_,_,_,_,_] [_] rfl rfl
  refine wp_seq_k (fun _ k162 => ?_)
  refine wi H h (fun b175 h => ?_) (fun b175 h => ?_)
  ·refine wp_skip (k162 _ _ ?_)
   refine wp_seq_k (fun K163 k163 => ?_)
   refine wp_block ?_
   have ⟨t14,ht14,h⟩ := bs h
   refine sr mx [v1 2 (fun v0 => box (Qj.cs zz5) v0),v1 2 (fun v0 => box (Qj.cs t14) v0)] H (fun _ => .o (QH ud31 QaM z1 z3 ht14)<|.o (Qr QaM z0)<|.m [] [1] rfl rfl rfl (Q0 (R := Qj) (a := zz5) QaM QqP)<|.e [] [1] [2] rfl rfl rfl rfl (QQ (R := Qj) (a := t14) QaM z0 z1 (leb rfl))<|.n) fun _ a w H => ?_
   replace H : St _ _ _ [_,_,_,_,_,_,_] [_] _ _ := ((((H.pick [2,4,5,6,7,8,9]).selA [1,0] rfl).shareB 0 rfl).add 0 rfl (fun _ _ _ h => h.2)).pick [0,3,4,5,6,7,8]
   have ⟨t19,ht19,h⟩ := bs h
   refine sr mx [] H (fun _ => .o (Qr QaM z0)<|.u [0] rfl rfl (QeC (R := Qx) (u := s126.2.2) Qhb z6 rfl)<|.o (Qh call89 (Qlw ht19) (.cons (.of z1)<|.cons (.of z0)<|.nil))<|.q 0 rfl<|.o (QS z0 rfl)<|.o (QS z1 rfl)<|.o (Qa z1)<|.o (Qa z1)<|.n) fun _ a w H => ?_
   have H := H.to [6,7,9,10,11,12,13,14] [_,_,_,_,_,_,_,_] [_] rfl rfl
   refine wp_seq_k (fun _ k167 => ?_)
   refine sr mx [] H (fun _ => .q 1 rfl<|.o (Qb8 z0 .k)<|.n) fun _ a w H => ?_
   have H := H.to [1,2,3,4,5,6,7,8,9] [_,_,_,_,_,_,_,_,_] [_] rfl rfl
   refine wi H h (fun b174 h => ?_) (fun b174 h => ?_)
   ·refine sr mx [] H (fun _ => .o (Qa .k)<|.n) fun _ a w H => ?_
    replace H : St _ _ _ [_] [] _ _ := (H.pick [0]).selA [] rfl
    refine wp_ret ?_
    exact hJp159 _ _ _ (ho _ (sj h).symm) (H.pick [0])
   refine wp_skip (k167 _ _ ?_)
   have ⟨t26,ht26,h⟩ := bs h
   refine sr mx [] H (fun _ => .q 2 rfl<|.q 2 rfl<|.u [0] rfl rfl (Qm1 (L := (s126.2.2).L) Qhj tok3 rfl z9 z0 rfl ht26)<|.u [0] rfl rfl (Qrm (o := 0) (L := (s126.2.2).L) tok3 rfl z0 rfl ht26)<|.o (Qb8 z3 z0)<|.n) fun _ a w H => ?_
   have H := H.to [4,6,7,8,9,10,11,12,13] [_,_,_,_,_,_,_,_,_] [_] rfl rfl
   have ⟨p171,hp171,h⟩ := bs h
   have hJp171 : ∀ a w,St M w0 38 [(4,tb p171.1),(10,tsl Qj l_),(11,ti (l_.length : Int)),(12,ti s126.1),(3,tv (n1 0)),(0,tsl Qj l_)] [box (Qx.cs p171.2) (n1 0)] a w → K163 a w := by
    intro a w H
    refine k163 _ _ ?_
    refine wr mx [] H (fun _ => .o (QW z3 .k)<|.q 0 rfl<|.n) fun _ a w H => ?_
    have H := H.to [1,2,3,4,5,6] [_,_,_,_,_,_] [_] rfl rfl
    exact k160 _ _ _ (sj h).symm (H.pick [2,3,0,1,4,5])
   replace h := hp171
   clear hp171
   refine wi H h (fun b173 h => ?_) (fun b173 h => ?_)
   ·have ⟨t31,ht31,h⟩ := bs h
    refine wr mx [v0 (box (Qx.cs ((s126.2.2).setI t19.1 t19.2)) (n1 0))] H (fun _ => .q 1 rfl<|.q 3 rfl<|.u [0] rfl rfl (Qm1 (L := (s126.2.2).L) Qhj tok3 rfl z9 z1 rfl ht31)<|.e [] [0] [1] rfl rfl rfl rfl (Qkw (a := t19.2) (Ts := (Qx.cs s126.2.2)) (o := 0) (L := (s126.2.2).L) tok3 rfl z0 z1 ht31 (leb rfl) (Qm.spl (pre := List.take 0 (Qx.cs s126.2.2)) (post := List.drop 6 (Qx.cs s126.2.2)) rfl ht31))<|.o (Qa .k)<|.n) fun _ a w H => ?_
    have H := H.to [3,7,8,9,10,11] [_,_,_,_,_,_] [_] rfl rfl
    obtain rfl := sj h
    exact hJp171 _ _ (H.pick [0,1,2,3,4,5])
   refine wp_skip ?_
   obtain rfl := sj h
   exact hJp171 _ _ (H.pick [6,3,4,5,7,8])
  refine wp_exit ?_
  exact hJp158 _ _ _ (ho _ (sj h).symm) (H.pick [4,5,6])
 refine wp_exit ?_
 exact hJp118 _ _ _ (ho _ (sj h).symm) (H.pick [1,2])

/- math/bits.TrailingZeros32 -/
/- math/bits.TrailingZeros64 -/
noncomputable def Qcv (x_ : Int) : Option (Int) := (if (x_ == (0:Int)) = true then (some (64:Int)) else (idx Qm5 (ishr .u64 (IntKind.u64.wrap ((iand .u64 x_ (IntKind.u64.wrap (0 - x_))) * (285870213051353865:Int))) (58:Int))).bind fun t11 => (some (IntKind.i64.wrap t11)))
theorem Qjy {x_ : Int} {r : Int} (h : Qcv x_ = some r) : FnOk Tryz.prog 93 [tv (.int .u64 x_)] [glo] (fun _ => []) (fun _ => ti r) := by
 unfold Qcv at h
 refine fe Tryz.func93 Tryz.ntmps93 fun M0 M w0 a hpl H => ?_
 replace H : St M w0 14 [(0,tv (.int .u64 x_))] [glo] a w0 := H
 refine sr mx [] H (fun _ => .o (Qa .k)<|.n) fun _ a w H => ?_
 have H := H.to [1] [_] [_] rfl rfl
 refine wp_seq_k (fun _ k2 => ?_)
 refine sr mx [] H (fun _ => .q 0 rfl<|.o (Q3 z0 .k)<|.n) fun _ a w H => ?_
 have H := H.to [1,2] [_,_] [_] rfl rfl
 refine wi H h (fun b6 h => ?_) (fun b6 h => ?_)
 ·refine sr mx [] H (fun _ => .o (Qa .k)<|.n) fun _ a w H => ?_
  have H := H.to [0] [_] [_] rfl rfl
  refine wp_ret ?_
  obtain rfl := sj h
  exact rt undef [] hpl H (.tmp z0 .nil)
 refine wp_skip (k2 _ _ ?_)
 have ⟨t11,ht11,h⟩ := bs h
 refine sr mx [] H (fun _ => .q 1 rfl<|.q 2 rfl<|.o (Qre z0)<|.o (QnJ z2 z0)<|.o (QmO z0 .k)<|.o (QnK z0 .k (by decide))<|.u [0] rfl rfl (Qpb Tryz.underlying177 tok5 QsQ rfl z0 rfl ht11)<|.o (Qr tok5 z0)<|.o (Qtz Tryz.underlying5 ud3 z0)<|.o (Qa z0)<|.n) fun _ a w H => ?_
 have H := H.to [9] [_] [_] rfl rfl
 refine wp_ret ?_
 obtain rfl := sj h
 exact rt undef [] hpl H (.tmp z0 .nil)

/- math/bits.TrailingZeros -/
noncomputable def Qb7 (x_ : Int) : Option (Int) := (Qcv x_).bind fun t7 => (some t7)
theorem Qg2 {x_ : Int} {r : Int} (h : Qb7 x_ = some r) : FnOk Tryz.prog 59 [tv (.int .u64 x_)] [glo] (fun _ => []) (fun _ => ti r) := by
 unfold Qb7 at h
 refine fe Tryz.func59 Tryz.ntmps59 fun M0 M w0 a hpl H => ?_
 replace H : St M w0 8 [(0,tv (.int .u64 x_))] [glo] a w0 := H
 refine sr mx [] H (fun _ => .o (Qa .k)<|.n) fun _ a w H => ?_
 have H := H.to [1] [_] [_] rfl rfl
 refine wp_seq_k (fun _ k2 => ?_)
 refine Qrj ?_
 refine wp_skip (k2 _ _ ?_)
 have ⟨t7,ht7,h⟩ := bs h
 refine sr mx [] H (fun _ => .q 0 rfl<|.u [0] rfl rfl ((Qh call93 (Qjy ht7) (.cons (.of z0)<|.nil)).glo)<|.o (Qa z0)<|.n) fun _ a w H => ?_
 have H := H.to [2] [_] [_] rfl rfl
 refine wp_ret ?_
 obtain rfl := sj h
 exact rt undef [] hpl H (.tmp z0 .nil)

/- diorama/counts.some -/
noncomputable def QeU (l_ : (List Qd)) (set_ : Int) : Option ((List Qd)) := (QK (fun (s6 : Int × List Qd) => ((if (s6.1 != (0:Int)) = true then (Qb7 s6.1).bind fun t17 => (idx l_ t17).bind fun t18 => (rm (s6.2.length + [t18].length)).bind fun _ => (some (.inl ((iand .u64 s6.1 (IntKind.u64.wrap (s6.1 - (1:Int)))),(s6.2 ++ [t18])))) else (some (.inr s6.2))) : Option ((Int × List Qd) ⊕ ((List Qd))))) (set_,([] : List Qd))).bind fun (p17 : (List Qd)) => (some p17)
theorem Qj8 {l_ : (List Qd)} {set_ : Int} {r : (List Qd)} (h : QeU l_ set_ = some r) : FnOk Tryz.prog 91 [tsl Qj l_,tv (.int .u64 set_)] [glo] (fun _ => []) (fun _ => tsl Qj r) := by
 unfold QeU at h
 refine fe Tryz.func91 Tryz.ntmps91 fun M0 M w0 a hpl H => ?_
 replace H : St M w0 23 [(0,tsl Qj l_),(1,tv (.int .u64 set_))] [glo] a w0 := H
 refine sr mx [] H (fun _ => .o (Qa (.nilsl (R := Qj)))<|.n) fun _ a w H => ?_
 have H := H.to [1,2] [_,_] [_] rfl rfl
 refine sr mx [] H (fun _ => .o (Qa .k)<|.n) fun _ a w H => ?_
 replace H : St _ _ _ [_,_,_] [_,_] _ _ := (H.pick [0,1,2]).nil (Qj) 43
 refine wp_seq_k (fun K4 k4 => ?_)
 refine sr mx [] H (fun _ => .q 2 rfl<|.o (Qa z0)<|.n) fun _ a w H => ?_
 have H := H.to [1,2,3] [_,_,_] [_,_] rfl rfl
 have ⟨e7,he7,h⟩ := bs h
 have hJp17 : ∀ (p17 : List Qd) (v18 : Value) a w,p17 = e7 → St M w0 23 [(5,tv v18)] [own Qj 43 p17 v18,glo] a w → K4 a w := by
  intro p17 v18 a w he H
  subst he
  refine k4 _ _ ?_
  refine sr mx [] H (fun _ => .q 0 rfl<|.o (Qa z0)<|.n) fun _ a w H => ?_
  have H := H.to [0,1,2] [_,_,_] [_,_] rfl rfl
  refine wp_ret ?_
  replace H : St _ _ _ [_] [_] _ _ := (H.shareO 1 rfl).pick [0]
  obtain rfl := sj h
  exact rt undef [] hpl H (.tmp z0 .nil)
 refine wp_block ?_
 refine QZ _ (fun (s6 : Int × List Qd) a w => ∃ v12 : Value,St M w0 23 [(6,tv (.int .u64 s6.1)),(5,tv v12),(0,tsl Qj l_)] [own Qj 43 s6.2 v12,glo] a w) _ _ he7 ⟨(.slice none 0 0),H.pick [0,1,2]⟩ ?_
 clear h
 intro s6 o a w K20 hI h ho k20
 obtain ⟨v12,H⟩ := hI
 refine wp_seq_k (fun _ k21 => ?_)
 refine sr mx [] H (fun _ => .q 0 rfl<|.o (Qal z0 .k)<|.n) fun _ a w H => ?_
 have H := H.to [1,2,3,4] [_,_,_,_] [_,_] rfl rfl
 refine wi H h (fun b24 h => ?_) (fun b24 h => ?_)
 ·refine wp_skip (k21 _ _ ?_)
  refine wp_seq_k (fun _ k23 => ?_)
  refine wp_block ?_
  have ⟨t17,ht17,h⟩ := bs h
  have ⟨t18,ht18,h⟩ := bs h
  have ⟨u21,hu21,h⟩ := bs h
  refine wr mx [v1 7 (fun v0 => own Qj 43 (s6.2 ++ [t18]) v0)] H (fun _ => .q 2 rfl<|.q 4 rfl<|.q 3 rfl<|.u [1] rfl rfl ((Qh QrI (Qg2 ht17) (.cons (.of z0)<|.nil)).glo)<|.o (QH ud31 QaM z2 z0 ht18)<|.o (Qr QaM z0)<|.o (QE (R := Qj) (us := [t18]) ud31 QaM (.cons z0<|.nil _) rfl (leb rfl))<|.e [] [0] [2] rfl rfl rfl rfl (Qam (R := Qj) ud31 QaM (leb rfl) z6 z0 hu21)<|.ud (f := fun v => tv v) 7 rfl [] rfl rfl (Qa z0)<|.n) fun n5 a w H => ?_
  have H := H.to [7,8,10,11] [_,_,_,_] [_,_] rfl rfl
  refine k23 _ _ ?_
  refine wr mx [] H (fun _ => .q 2 rfl<|.q 3 rfl<|.o (QcN z0 .k)<|.o (QnJ z2 z0)<|.o (Qa z0)<|.n) fun _ a w H => ?_
  have H := H.to [4,5,6,7] [_,_,_,_] [_,_] rfl rfl
  exact k20 _ _ _ (sj h).symm ⟨(n5 7),(H.pick [0,2,3]).selA [1,0] rfl⟩
 refine wp_exit ?_
 exact hJp17 _ v12 _ _ (ho _ (sj h).symm) (H.pick [2])

/- diorama/counts.smallest -/
noncomputable def Qdz (self : (List Qd) → Int → Int → Int → Option (Int)) (l_ : (List Qd)) (set_ : Int) (from_ : Int) (many_ : Int) : Option (Int) := (nn (IntKind.i64.wrap ((64:Int) - (l_.length : Int)))).bind fun _ => (nn from_).bind fun _ => (nn from_).bind fun _ => (QeU l_ (ior .u64 set_ (ishl .u64 (ishr .u64 (ishr .u64 (18446744073709551615:Int) (IntKind.i64.wrap ((64:Int) - (l_.length : Int)))) from_) from_))).bind fun t24 => (Qd2 t24).bind fun t25 => (if t25 = true then (some (0:Int)) else (if (many_ == (0:Int)) = true then (QeU l_ set_).bind fun t30 => (Qd2 t30).bind fun t31 => (if t31 = true then (some (0:Int)) else (some set_)) else (QK (fun (s15 : Int) => ((if (decide ((IntKind.i64.wrap (s15 + many_)) ≤ (l_.length : Int))) = true then (nn s15).bind fun _ => (self l_ (ior .u64 set_ (ishl .u64 (1:Int) s15)) (IntKind.i64.wrap (s15 + (1:Int))) (IntKind.i64.wrap (many_ - (1:Int)))).bind fun t51 => (if (t51 != (0:Int)) = true then (some (.inr (.inr t51))) else (some (.inl (IntKind.i64.wrap (s15 + (1:Int)))))) else (some (.inr (.inl ())))) : Option ((Int) ⊕ ((Unit) ⊕ (Int))))) from_).bind fun (e16 : (Unit) ⊕ (Int)) => (match e16 with | .inl _ => (some (0:Int)) | .inr p34 => (some p34))))
theorem Qk3 {self : (List Qd) → Int → Int → Int → Option (Int)} (hself : ∀ (l_ : (List Qd)) (set_ : Int) (from_ : Int) (many_ : Int) (r : Int),self l_ set_ from_ many_ = some r → FnOk Tryz.prog 58 [tsl Qj l_,tv (.int .u64 set_),ti from_,ti many_] [glo] (fun _ => []) (fun _ => tv (.int .u64 r))) {l_ : (List Qd)} {set_ : Int} {from_ : Int} {many_ : Int} {r : Int} (h : Qdz self l_ set_ from_ many_ = some r) : FnOk Tryz.prog 58 [tsl Qj l_,tv (.int .u64 set_),ti from_,ti many_] [glo] (fun _ => []) (fun _ => tv (.int .u64 r)) := by
 unfold Qdz at h
 refine fe Tryz.func58 Tryz.ntmps58 fun M0 M w0 a hpl H => ?_
 replace H : St M w0 55 [(0,tsl Qj l_),(1,tv (.int .u64 set_)),(2,ti from_),(3,ti many_)] [glo] a w0 := H
 refine sr mx [] H (fun _ => .o (Qa .k)<|.n) fun _ a w H => ?_
 have H := H.to [1,2,3,4] [_,_,_,_] [_] rfl rfl
 refine wp_seq_k (fun _ k2 => ?_)
 have ⟨u15,hu15,h⟩ := bs h
 have ⟨u17,hu17,h⟩ := bs h
 have ⟨u19,hu19,h⟩ := bs h
 refine wr mx [] H (fun _ => .q 0 rfl<|.o (QM ud31 z0)<|.o (QcN .k z0)<|.o (QnK .k z0 (QoN hu15))<|.q 6 rfl<|.o (QnK z1 z0 (QoN hu17))<|.q 8 rfl<|.o (Qqb z1 z0 (QoN hu19))<|.o (Qa z0)<|.n) fun _ a w H => ?_
 have H := H.to [8,9,10,11,12] [_,_,_,_,_] [_] rfl rfl
 refine k2 _ _ ?_
 refine wp_seq_k (fun _ k3 => ?_)
 have ⟨t24,ht24,h⟩ := bs h
 have ⟨t25,ht25,h⟩ := bs h
 refine sr mx [] H (fun _ => .q 1 rfl<|.q 3 rfl<|.q 2 rfl<|.o (Qri z1 z0)<|.u [0] rfl rfl ((Qh QrL (Qj8 ht24) (.cons (.of z3)<|.cons (.of z0)<|.nil)).glo)<|.o (Qh Qpo (QhU ht25) (.cons (.of z0)<|.nil))<|.n) fun _ a w H => ?_
 have H := H.to [5,7,8,9,10] [_,_,_,_,_] [_] rfl rfl
 refine wi H h (fun b46 h => ?_) (fun b46 h => ?_)
 ·refine sr mx [] H (fun _ => .o (Qa .k)<|.n) fun _ a w H => ?_
  have H := H.to [0] [_] [_] rfl rfl
  refine wp_ret ?_
  obtain rfl := sj h
  exact rt undef [] hpl H (.tmp z0 .nil)
 refine wp_skip (k3 _ _ ?_)
 refine wp_seq_k (fun _ k6 => ?_)
 refine sr mx [] H (fun _ => .q 4 rfl<|.o (Q3 z0 .k)<|.n) fun _ a w H => ?_
 have H := H.to [1,3,4,5,6] [_,_,_,_,_] [_] rfl rfl
 refine wi H h (fun b45 h => ?_) (fun b45 h => ?_)
 ·refine wp_seq_k (fun _ k8 => ?_)
  have ⟨t30,ht30,h⟩ := bs h
  have ⟨t31,ht31,h⟩ := bs h
  refine sr mx [] H (fun _ => .q 1 rfl<|.q 3 rfl<|.u [0] rfl rfl ((Qh QrL (Qj8 ht30) (.cons (.of z1)<|.cons (.of z0)<|.nil)).glo)<|.o (Qh Qpo (QhU ht31) (.cons (.of z0)<|.nil))<|.n) fun _ a w H => ?_
  have H := H.to [3,6] [_,_] [_] rfl rfl
  refine wi H h (fun b12 h => ?_) (fun b12 h => ?_)
  ·refine sr mx [] H (fun _ => .o (Qa .k)<|.n) fun _ a w H => ?_
   have H := H.to [0] [_] [_] rfl rfl
   refine wp_ret ?_
   obtain rfl := sj h
   exact rt undef [] hpl H (.tmp z0 .nil)
  refine wp_skip (k8 _ _ ?_)
  refine sr mx [] H (fun _ => .q 1 rfl<|.o (Qa z0)<|.n) fun _ a w H => ?_
  have H := H.to [1] [_] [_] rfl rfl
  refine wp_ret ?_
  obtain rfl := sj h
  exact rt undef [] hpl H (.tmp z0 .nil)
 refine wp_skip (k6 _ _ ?_)
 refine wp_seq_k (fun K13 k13 => ?_)
 refine sr mx [] H (fun _ => .q 3 rfl<|.o (Qa z0)<|.n) fun _ a w H => ?_
 have H := H.to [1,3,4,6] [_,_,_,_] [_] rfl rfl
 have ⟨e16,he16,h⟩ := bs h
 have hJp33 : ∀ (p33 : Unit) a w,(.inl p33) = e16 → St M w0 55 [] [glo] a w → K13 a w := by
  intro p33 a w he H
  subst he
  simp only at h
  refine k13 _ _ ?_
  refine sr mx [] H (fun _ => .o (Qa .k)<|.n) fun _ a w H => ?_
  have H := H.to [0] [_] [_] rfl rfl
  refine wp_ret ?_
  obtain rfl := sj h
  exact rt undef [] hpl H (.tmp z0 .nil)
 have hJp34 : ∀ (p34 : Int) a w,(.inr p34) = e16 → St M w0 55 [(8,tv (.int .u64 p34))] [glo] a w → Ret Tryz.prog Tryz.f58 M0 [glo] w0 (fun _ => []) (fun _ => tv (.int .u64 r)) .ret a w := by
  intro p34 a w he H
  subst he
  simp only at h
  obtain rfl := sj h
  exact rt undef [] hpl H (.tmp z0 .nil)
 refine wp_block ?_
 refine QZ _ (fun (s15 : Int) a w => St M w0 55 [(10,ti s15),(0,tsl Qj l_),(1,tv (.int .u64 set_)),(3,ti many_)] [glo] a w) _ _ he16 (H.pick [0,1,2,3]) ?_
 clear h
 intro s15 o a w K36 hI h ho k36
 have H := hI
 clear hI
 refine wp_seq_k (fun _ k37 => ?_)
 refine sr mx [] H (fun _ => .q 0 rfl<|.q 4 rfl<|.o (QW z1 z0)<|.q 4 rfl<|.o (QM ud31 z0)<|.o (QdU z2 z0)<|.n) fun _ a w H => ?_
 have H := H.to [5,6,7,8,9] [_,_,_,_,_] [_] rfl rfl
 refine wi H h (fun b44 h => ?_) (fun b44 h => ?_)
 ·refine wp_skip (k37 _ _ ?_)
  refine wp_seq_k (fun _ k39 => ?_)
  refine wp_block ?_
  refine wp_seq_k (fun _ k40 => ?_)
  have ⟨u45,hu45,h⟩ := bs h
  have ⟨t51,ht51,h⟩ := bs h
  refine wr mx [] H (fun _ => .q 2 rfl<|.q 4 rfl<|.q 3 rfl<|.o (Qqb .k z0 (QoN hu45))<|.o (Qri z2 z0)<|.q 6 rfl<|.o (QW z0 .k)<|.q 11 rfl<|.o (QcN z0 .k)<|.u [0] rfl rfl ((Qh QrH (hself _ _ _ _ _ ht51) (.cons (.of z8)<|.cons (.of z4)<|.cons (.of z2)<|.cons (.of z0)<|.nil)).glo)<|.o (Qa z0)<|.n) fun _ a w H => ?_
  have H := H.to [10,12,13,14,15] [_,_,_,_,_] [_] rfl rfl
  refine k40 _ _ ?_
  refine sr mx [] H (fun _ => .q 0 rfl<|.o (Qal z0 .k)<|.n) fun _ a w H => ?_
  have H := H.to [1,2,3,4,5,6] [_,_,_,_,_,_] [_] rfl rfl
  refine wi H h (fun b43 h => ?_) (fun b43 h => ?_)
  ·refine sr mx [] H (fun _ => .q 1 rfl<|.o (Qa z0)<|.n) fun _ a w H => ?_
   have H := H.to [1] [_] [_] rfl rfl
   refine wp_ret ?_
   exact hJp34 _ _ _ (ho _ (sj h).symm) (H.pick [0])
  refine wp_skip (k39 _ _ ?_)
  refine wr mx [] H (fun _ => .q 2 rfl<|.o (QW z0 .k)<|.o (Qa z0)<|.n) fun _ a w H => ?_
  have H := H.to [2,5,6,7] [_,_,_,_] [_] rfl rfl
  exact k36 _ _ _ (sj h).symm (H.pick [0,1,2,3])
 refine wp_exit ?_
 exact hJp33 _ _ _ (ho _ (sj h).symm) (H.pick [])
noncomputable def QeK : Nat → (List Qd) → Int → Int → Int → Option (Int)
 | 0 => fun _ _ _ _ => none
 | n + 1 => Qdz (QeK n)
theorem Qho : ∀ (n : Nat) (l_ : (List Qd)) (set_ : Int) (from_ : Int) (many_ : Int) (r : Int),QeK n l_ set_ from_ many_ = some r → FnOk Tryz.prog 58 [tsl Qj l_,tv (.int .u64 set_),ti from_,ti many_] [glo] (fun _ => []) (fun _ => tv (.int .u64 r))
 | 0,_,_,_,_,r,h => by cases h
 | n + 1,l_,set_,from_,many_,r,h => Qk3 (fun l_ set_ from_ many_ r h => Qho n l_ set_ from_ many_ r h) h
noncomputable def QgK (l_ : (List Qd)) (set_ : Int) (from_ : Int) (many_ : Int) : Option (Int) := QeK (many_.natAbs + 2) l_ set_ from_ many_
theorem Qlx {l_ : (List Qd)} {set_ : Int} {from_ : Int} {many_ : Int} {r : Int} (h : QgK l_ set_ from_ many_ = some r) : FnOk Tryz.prog 58 [tsl Qj l_,tv (.int .u64 set_),ti from_,ti many_] [glo] (fun _ => []) (fun _ => tv (.int .u64 r)) := Qho _ _ _ _ _ _ h

end Go.Proofs.YtcdccjagknlmpaaGreatDoor

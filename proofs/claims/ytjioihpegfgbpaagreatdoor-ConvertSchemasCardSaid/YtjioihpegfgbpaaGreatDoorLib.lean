/- What the library's functions do that the typing rows reach. No condition. -/
import Derived.Test.YtjioihpegfgbpaaGreatDoorBase
import Derived.Test.YtjioihpegfgbpaaGreatDoorLibI
import Derived.WalkKit
import Derived.Lib.Walk
set_option linter.all false
open List Go.Proofs.Tryz
namespace Go.Proofs.YtjioihpegfgbpaaGreatDoor
open Go.Sim Go.RowKit
def bInfo:(prog.info? 234).map (λi=>(i.zero,i.size,i.bytes))=some (some (.agg #[.pointer none,.slice none 0 0]),2,32):=by kernel_rfl
def bSize:(prog.info? 234).map (·.size)=some 2:=by kernel_rfl
def bLies:liesAt prog prog.depth 234 (2 / prog.cellsOf 234) 0 234 1=true:=by kernel_rfl
set_option maxHeartbeats 1000000 in
set_option maxRecDepth 100000 in
def Qwh (b:Nat) (w:World) (h0:w.cell? ⟨b,0,none⟩=some (.pointer (some ⟨b,0,none⟩))):
  Calls prog 179 #[.pointer (some ⟨b,0,none⟩)] w λe w'=>e=.returned (.tuple #[])/\w'=w:=by
 obtain⟨j,hj,_⟩:=Option.map_eq_some_iff.1 bSize;have u1:=run_underlying underlying232;have u2:=run_underlying underlying234
 go_enter func179,ntmps179
 go_wp2
 rw[Lib.run_neq_ptr_same w _ underlying232 hj]
 go_wp2
 go_end0
 exact⟨rfl,rfl⟩
set_option maxHeartbeats 1000000 in
set_option maxRecDepth 100000 in
def QuH (b:Nat) (w:World) (h0:w.cell? ⟨b,0,none⟩=some (.pointer none)) (hsh:w.shape? b=some (234,2)) (hfz:w.frozen? ⟨b,0,none⟩=false):
  Calls prog 179 #[.pointer (some ⟨b,0,none⟩)] w λe w'=>e=.returned (.tuple #[])/\w'=w.setCell ⟨b,0,none⟩ (.pointer (some ⟨b,0,none⟩)):=by
 obtain⟨j,hj,hjs⟩:=Option.map_eq_some_iff.1 bSize
 go_enter func179,ntmps179
 go_wp2
 rw[Lib.run_to_unsafe w ⟨b,0,none⟩ underlying232 underlying266 hj (by rw[hjs];decide) hsh (Nat.zero_lt_succ 1)];simp only[Result.andThen];rw[Oper.upon_value]
 go_wp2
 rw[run_callFunc_extern func190 (by kernel_rfl) (by kernel_rfl) (by kernel_rfl) (e:=Extern.AbiNoEscape.same) (by kernel_rfl)];rw[Lib.run_noEscape];simp only[Result.andThen];rw[Oper.upon_value]
 go_wp2
 rw[Lib.run_from_unsafe w ⟨b,0,none⟩ underlying266 underlying232 hj hsh bLies];simp only[Result.andThen];rw[Oper.upon_value]
 go_wp2
 go_end0
 exact⟨rfl,rfl⟩
def tokB:TOk prog 81 (rSl (rInt .u8)) 24 (.slice none 0 0):=⟨⟨_,underlying81,rfl⟩,by kernel_rfl,rfl⟩
def Qnl:TOk prog 81 rVal 24 (.slice none 0 0):=⟨⟨_,underlying81,rfl⟩,by kernel_rfl,rfl⟩
def Qti:TOk prog 5 (rInt .u8) 1 (.int .u8 0):=⟨⟨_,underlying5,rfl⟩,by kernel_rfl,rfl⟩
def fldB:QI prog 234 1 1:=QI.mk underlying234 rfl rfl tokB (by decide)
def QuI:QB prog 179:=⟨⟨_,func179,by kernel_rfl,rfl⟩⟩
def Qhu:QB prog 152:=⟨⟨_,func152,by kernel_rfl,rfl⟩⟩
def Qx0:QB prog 180:=⟨⟨_,func180,by kernel_rfl,rfl⟩⟩
def QsA:QB prog 156:=⟨⟨_,func156,by kernel_rfl,rfl⟩⟩
def Qx1:QB prog 181:=⟨⟨_,func181,by kernel_rfl,rfl⟩⟩
def bldOk {l:Str} {q v:Value} {F:Blk} {w:World} (h:(bld l q v).ok F w):∃b u,q=.pointer (some ⟨b,0,none⟩)/\w.heap[b]?=some (.cells #[u,v] 234 (0,0))/\(u=.pointer none\/u=q):=by
 obtain⟨⟨b,cur,hq,hb,hc,h1⟩,_⟩:=h;have hl:cur.toList.length=2:=hc.1;obtain⟨u0,u1,hcur⟩:∃u0 u1,cur.toList=[u0,u1]:=by
  match hm:cur.toList,hl with
  | [u0,u1],_=>exact⟨u0,u1,rfl⟩
 have e:cur=#[u0,u1]:=by apply Array.ext';simpa using hcur
 have h0:=hc.2 0 _ u0 rfl (by rw[hcur];rfl);have hv:=hc.2 1 _ u1 rfl (by rw[hcur];rfl);have hv1:u1=v:=hv.1;subst hv1;exact⟨b,u0,hq,by rw[hb,e],h0.1⟩
def QmE {l:Str} {q v:Value}:FnOk prog 179 [tv q] [bld l q v] (λ_=>[bld l q v]) (λ_=>ttup []):=by
 intro M w vs hM hE hap hc;obtain⟨hok,hfp⟩:=hE _ (mem_singleton.2 rfl);obtain⟨b,u,hq,hb,hu⟩:=bldOk hok;have hvs:vs=[q]:=by
  match vs,hc.1 with
  | [x],_=>have hx:=hc.2 0 _ x rfl rfl;have:x=q:=hx;rw[this]
 subst hvs;have hlt:b<w.heap.size:=(Array.getElem?_eq_some_iff.1 hb).1;have hfpb:(bld l q v).fp b:=.inl hq;have hfree:∀w':World,w.heap.size<=w'.heap.size->∀k,free M w k->free (next M [bld l q v] [bld l q v]) w' k:=by
  rintro w' hs k ⟨h1,h2⟩;refine⟨by omega,?_⟩;rintro (⟨hm,_⟩ | hm)
  ·exact h2 hm
  ·exact h2 (hfp k (Qak.1 hm))
 have hplace:∀w':World,w.heap.size<=w'.heap.size->∀k,(bld l q v).fp k->(Qay [bld l q v] k\/w.heap.size<=k)/\k<w'.heap.size:=λw' hs k hk=>⟨.inl (Qak.2 hk),by have:=hM k (hfp k hk);omega⟩;rw[hq];rcases hu with hu | hu
 ·have h0:w.cell? ⟨b,0,none⟩=some (.pointer none):=by simp[World.cell?,hb,hu]
  refine Calls.mono (QuH b w h0 (by simp[World.shape?,hb]) (by simp[World.frozen?,hb])) ?_;rintro en w' ⟨rfl,rfl⟩;have hb':(w.setCell ⟨b,0,none⟩ (.pointer (some ⟨b,0,none⟩))).heap[b]?=some (.cells #[q,v] 234 (0,0)):=by rw[hq];simp[World.setCell,Array.getElem?_modify,hb]
  have hoth:∀k,k≠b->(w.setCell ⟨b,0,none⟩ (.pointer (some ⟨b,0,none⟩))).heap[k]?=w.heap[k]?:=λk hk=>by simp[World.setCell,Array.getElem?_modify,Ne.symm hk]
  have hsz:w.heap.size<=(w.setCell ⟨b,0,none⟩ (.pointer (some ⟨b,0,none⟩))).heap.size:=by simp[World.setCell]
  rw[<-hq] at hb' hoth hsz ⊢;refine⟨undef,_,rfl,⟨rfl,rfl,rfl,hsz,λk _ hn=>hoth k (λe=>hn (Qak.2 (e▸hfpb)))⟩,QbQ (hplace _ hsz) ?_,⟨[],rfl,rfl,λj T u h=>by simp at h⟩⟩;obtain⟨hbox,hown,hdis⟩:=hok;refine⟨⟨b,_,hq,hb',?_,?_⟩,?_,hdis⟩
  ·obtain⟨b2,cur,hq2,hb2,hc2,_⟩:=hbox;have:b2=b:=by rw[hq] at hq2;simpa using hq2.symm
   subst this;rw[hb] at hb2;cases hb2;have hv:=hc2.2 1 _ v rfl rfl;exact .cons ⟨.inr rfl,by rw[hq];rfl⟩ (.cons hv .nil)
  ·obtain⟨b2,cur,hq2,hb2,hc2,h1⟩:=hbox;have:b2=b:=by rw[hq] at hq2;simpa using hq2.symm
   subst this;rw[hb] at hb2;cases hb2;intro x hx;simp at hx;rcases hx with rfl | rfl
   ·rw[hq];rfl
   ·exact h1 _ (by simp)
  ·refine Atom.keep _ (hfree _ hsz) (λk hk=>hoth k (λe=>hk.2 (hfp k (e▸hfpb)))) (λk hk=>hoth k (λe=>?_)) hown;exact hdis k (e▸hq) hk
 ·have h0:w.cell? ⟨b,0,none⟩=some (.pointer (some ⟨b,0,none⟩)):=by simp[World.cell?,hb,hu,hq]
  refine Calls.mono (Qwh b w h0) ?_;rintro en w' ⟨rfl,rfl⟩;rw[<-hq];exact⟨undef,_,rfl,Step.refl _ _,QbQ (hplace _ (Nat.le_refl _)) (Atom.keep _ (hfree _ (Nat.le_refl _)) (λ_ _=>rfl) (λ_ _=>rfl) hok),⟨[],rfl,rfl,λj T u h=>by simp at h⟩⟩
def Qbv (l s:Str):Option Str:=if l.length+s.length<=68719476736 then some (l++s) else none
def Qi9 (l:Str) (c:Int):Option Str:=if 0<=c/\c<256/\l.length+1<=68719476736 then some (l++[UInt8.ofNat c.toNat]) else none
def Qic (l:Str):Option Str:=if l=[] then none else some l
def QlO (n:Int):Option Str:=if -9223372036854775808<=n/\n<=9223372036854775807 then some (Lib.itoa n) else none
set_option maxRecDepth 100000 in
def Qb4 {q w1:Value} {l s r:Str} (h:Qbv l s=some r):FnOk prog 152 [tv q,tv (.string (sB s))] [bld l q w1] (λv=>[bld r q v]) (λ_=>ttup [ti (s.length:Int),tv .nilIface]):=by
 unfold Qbv at h;split at h
 case isFalse=>cases h
 rename_i hl;obtain rfl:=Option.some.inj h;have hr:rm ((Q3 l).length+s.length)=some ():=by unfold rm;rw[if_pos (by simpa[Q3] using hl)]
 have eb:Q3 l++Q3 s=Q3 (l++s):=by simp[Q3]
 refine FnOk.enter func152 rfl ntmps152 (Nat.le_of_ble_eq_true rfl) (λM0 M w0 a hpl hst=>?_);replace hst:St M w0 19 [(0,tv q),(1,tv (.string (sB s)))] [bld l q w1] a w0:=hst;refine wp_seq_k (λK1 hK1=>?_);refine QbA mixed [] hst (λ_=>.p rfl (Qc .k)<|.p rfl (Qc .k)<|.nil _ _) (by kernel_rfl) (λn0 a w hst=>?_);replace hst:St M w0 19 [(0,tv q),(1,tv (.string (sB s)))] [bld l q w1] a w:=hst.pick [2,3];refine hK1 _ _ ?_;clear hK1 K1;refine wp_seq_k (λK1 hK1=>?_);refine QbA mixed [v0 (bld l q w1)] hst (λ_=>.p rfl (QL (.t 0 rfl))<|.e [] [0] [1] rfl rfl rfl rfl (Qq QuI QmE (.cons (.of (.t 0 rfl))<|.nil))<|.nil _ _) (by kernel_rfl) (λn1 a w hst=>?_);replace hst:St M w0 19 [(0,tv q),(1,tv (.string (sB s)))] [boxT 234 [tbp q,tvs w1] q,own (rInt .u8) 5 (Q3 l) w1] a w:=St.open2 (hst.pick [2,3]);refine hK1 _ _ ?_;clear hK1 K1;refine wp_seq_k (λK1 hK1=>?_);refine QbA mixed [v1 6 (λv=>own (rInt .u8) 5 (Q3 l++Q3 s) v),v1 6 (λv=>boxT 234 [tbp q,tvs v] q)] hst (λn2=>.p rfl (QL (.t 0 rfl))<|.p rfl (QL (.t 1 rfl))<|.u [0] rfl rfl (.rT (Qa5 (.t 0 rfl)))<|.u [0] rfl rfl (.rT (QC fldB (.t 0 rfl)))<|.u [0] rfl rfl (.rT (QX (u:=w1) Qnl (.t 0 rfl) rfl))<|.p rfl (QL (.t 6 rfl))<|.e [] [1] [2] rfl rfl rfl rfl (QsS underlying81 underlying9 Qti (.t 1 rfl) (.t 0 rfl) hr)<|.u [0] rfl rfl (.rT (Qa5 (.t 6 rfl)))<|.u [0] rfl rfl (.rT (QC fldB (.t 0 rfl)))<|.e [2] [0] [3] rfl rfl rfl rfl (Qof (R:=rInt .u8) (e:=5) (xs:=Q3 l++Q3 s) (Ts:=[tbp q,tvs w1]) (off:=1) Qnl (.t 0 rfl) (.t 2 rfl) (Nat.le_of_ble_eq_true rfl))<|.nil _ _) (by kernel_rfl) (λn2 a w hst=>?_);replace hst:St M w0 19 [(1,tv (.string (sB s)))] [own (rInt .u8) 5 (Q3 l++Q3 s) (n2 6),boxT 234 [tbp q,tvs (n2 6)] q] a w:=hst.pick [10];rw[eb] at hst;replace hst:St M w0 19 [(1,tv (.string (sB s)))] [bld (l++s) q (n2 6)] a w:=St.close2 hst.swap;refine hK1 _ _ ?_;clear hK1 K1;refine wp_seq_k (λK1 hK1=>?_);refine QbA mixed [] hst (λ_=>.p rfl (QL (.t 0 rfl))<|.p rfl (op_lenS' underlying9 (.t 0 rfl))<|.p rfl (Qc (.t 0 rfl))<|.p rfl (Qc .k)<|.nil _ _) (by kernel_rfl) (λn3 a w hst=>?_);replace hst:St M w0 19 [(4,ti (s.length:Int)),(5,tv .nilIface)] [bld (l++s) q (n2 6)] a w:=hst.pick [2,3];refine hK1 _ _ ?_;clear hK1 K1;refine wp_ret ?_;exact Qj6 (n2 6) [0] hpl hst rfl (.tmp (.t 0 rfl) (.tmp (.t 1 rfl) .nil)) rfl rfl rfl
set_option maxRecDepth 100000 in
def Qqc {q w1:Value} {l:Str} {c:Int} {r:Str} (h:Qi9 l c=some r):FnOk prog 180 [tv q,tv (.int .u8 c)] [bld l q w1] (λv=>[bld r q v]) (λ_=>tv .nilIface):=by
 unfold Qi9 at h;split at h
 case isFalse=>cases h
 rename_i hl;obtain⟨hc0,hc1,hl⟩:=hl;obtain rfl:=Option.some.inj h;have hr:rm ((Q3 l).length+[c].length)=some ():=by unfold rm;rw[if_pos (by simpa[Q3] using hl)]
 have eb:Q3 l++[c]=Q3 (l++[UInt8.ofNat c.toNat]):=by simp only[Q3,map_append,map_cons,map_nil];congr 2;simp only[UInt8.toNat_ofNat'];omega
 refine FnOk.enter func180 rfl ntmps180 (Nat.le_of_ble_eq_true rfl) (λM0 M w0 a hpl hst=>?_);replace hst:St M w0 17 [(0,tv q),(1,tv (.int .u8 c))] [bld l q w1] a w0:=hst;refine wp_seq_k (λK1 hK1=>?_);refine QbA mixed [] hst (λ_=>.p rfl (Qc .k)<|.nil _ _) (by kernel_rfl) (λn0 a w hst=>?_);replace hst:St M w0 17 [(0,tv q),(1,tv (.int .u8 c))] [bld l q w1] a w:=hst.pick [1,2];refine hK1 _ _ ?_;clear hK1 K1;refine wp_seq_k (λK1 hK1=>?_);refine QbA mixed [v0 (bld l q w1)] hst (λ_=>.p rfl (QL (.t 0 rfl))<|.e [] [0] [1] rfl rfl rfl rfl (Qq QuI QmE (.cons (.of (.t 0 rfl))<|.nil))<|.nil _ _) (by kernel_rfl) (λn1 a w hst=>?_);replace hst:St M w0 17 [(0,tv q),(1,tv (.int .u8 c))] [boxT 234 [tbp q,tvs w1] q,own (rInt .u8) 5 (Q3 l) w1] a w:=St.open2 (hst.pick [2,3]);refine hK1 _ _ ?_;clear hK1 K1;refine wp_seq_k (λK1 hK1=>?_);refine QbA mixed [v1 7 (λv=>own (rInt .u8) 5 (Q3 l++[c]) v),v1 7 (λv=>boxT 234 [tbp q,tvs v] q)] hst (λn2=>.p rfl (QL (.t 0 rfl))<|.p rfl (QL (.t 1 rfl))<|.u [0] rfl rfl (.rT (Qa5 (.t 0 rfl)))<|.u [0] rfl rfl (.rT (QC fldB (.t 0 rfl)))<|.u [0] rfl rfl (.rT (QX (u:=w1) Qnl (.t 0 rfl) rfl))<|.p rfl (QL (.t 6 rfl))<|
  .p rfl (QK (R:=rInt .u8) (us:=[c]) underlying81 Qti (.cons (.t 0 rfl)<|.nil _) rfl (Nat.le_of_ble_eq_true rfl))<|
  .e [] [1] [2] rfl rfl rfl rfl (QS (R:=rInt .u8) underlying81 Qti (Nat.le_of_ble_eq_true rfl) (.t 2 rfl) (.t 0 rfl) hr)<|.u [0] rfl rfl (.rT (Qa5 (.t 7 rfl)))<|.u [0] rfl rfl (.rT (QC fldB (.t 0 rfl)))<|.e [2] [0] [3] rfl rfl rfl rfl (Qof (R:=rInt .u8) (e:=5) (xs:=Q3 l++[c]) (Ts:=[tbp q,tvs w1]) (off:=1) Qnl (.t 0 rfl) (.t 2 rfl) (Nat.le_of_ble_eq_true rfl))<|.nil _ _) (by kernel_rfl) (λn2 a w hst=>?_)
 replace hst:St M w0 17 [] [own (rInt .u8) 5 (Q3 l++[c]) (n2 7),boxT 234 [tbp q,tvs (n2 7)] q] a w:=hst.pick [];rw[eb] at hst;replace hst:St M w0 17 [] [bld (l++[UInt8.ofNat c.toNat]) q (n2 7)] a w:=St.close2 hst.swap;refine hK1 _ _ ?_;clear hK1 K1;refine wp_seq_k (λK1 hK1=>?_);refine QbA mixed [] hst (λ_=>.p rfl (Qc .k)<|.nil _ _) (by kernel_rfl) (λn3 a w hst=>?_);replace hst:St M w0 17 [(4,tv .nilIface)] [bld (l++[UInt8.ofNat c.toNat]) q (n2 7)] a w:=hst.pick [0];refine hK1 _ _ ?_;clear hK1 K1;refine wp_ret ?_;exact Qj6 (n2 7) [0] hpl hst rfl (.tmp (.t 0 rfl) .nil) rfl rfl rfl
set_option maxRecDepth 100000 in
def QoD {q w1:Value} {l r:Str} (h:Qic l=some r):FnOk prog 156 [tv q] [bld l q w1] (λ_=>[]) (λ_=>tv (.string (sB r))):=by
 unfold Qic at h;split at h
 case isTrue=>cases h
 rename_i hne;obtain rfl:=Option.some.inj h;have hneb:Q3 l≠[]:=λe=>hne (by simpa[Q3] using e);refine FnOk.enter func156 rfl ntmps156 (Nat.le_of_ble_eq_true rfl) (λM0 M w0 a hpl hst=>?_);replace hst:St M w0 14 [(0,tv q)] [bld l q w1] a w0:=hst;refine wp_seq_k (λK1 hK1=>?_);refine QbA mixed [] hst (λ_=>.p rfl (Qc .k)<|.nil _ _) (by kernel_rfl) (λn0 a w hst=>?_);replace hst:St M w0 14 [(0,tv q)] [boxT 234 [tbp q,tvs w1] q,own (rInt .u8) 5 (Q3 l) w1] a w:=St.open2 (hst.pick [1]);refine hK1 _ _ ?_;clear hK1 K1;refine wp_seq_k (λK1 hK1=>?_);refine QbA mixed [] hst (λn2=>.p rfl (QL (.t 0 rfl))<|.u [0] rfl rfl (.rT (Qa5 (.t 0 rfl)))<|.u [0] rfl rfl (.rT (QC fldB (.t 0 rfl)))<|.u [0] rfl rfl (.rT (QX (u:=w1) Qnl (.t 0 rfl) rfl))<|.u [1] rfl rfl (QqS hneb (.t 0 rfl))<|
  .p rfl (QL (.t 5 rfl))<|.u [0] rfl rfl (.rT (Qa5 (.t 0 rfl)))<|.u [0] rfl rfl (.rT (QC fldB (.t 0 rfl)))<|.u [0] rfl rfl (.rT (QX (u:=w1) Qnl (.t 0 rfl) rfl))<|.u [1] rfl rfl (Qdn (R:=rInt .u8) (xs:=Q3 l) underlying81 (.t 0 rfl))<|
  .e [] [1] [] rfl rfl rfl rfl (Qog (l:=l) underlying260 (by kernel_rfl) hne (.t 5 rfl) (.t 0 rfl))<|.p rfl (Qc (.t 0 rfl))<|.nil _ _) (by kernel_rfl) (λn2 a w hst=>?_)
 replace hst:St M w0 14 [(2,tv (.string (sB l)))] [boxT 234 [tbp q,tvs w1] q] a w:=hst.pick [11];refine hK1 _ _ ?_;clear hK1 K1;refine wp_ret ?_;exact Qj6 undef [] hpl hst rfl (.tmp (.t 0 rfl) .nil) rfl rfl rfl
def Qx2 {n:Int} {r:Str} (h:QlO n=some r):FnOk prog 181 [ti n] [glo] (λ_=>[]) (λ_=>tv (.string (sB r))):=by
 unfold QlO at h;split at h
 case isFalse=>cases h
 rename_i hl;obtain rfl:=Option.some.inj h;intro M w vs hM hE hap hc;obtain⟨hg,_⟩:=hE _ (mem_singleton.2 rfl);have hvs:vs=[.int .i64 n]:=by
  match vs,hc.1 with
  | [x],_=>have hx:=hc.2 0 _ x rfl rfl;have:x=.int .i64 n:=hx;rw[this]
 subst hvs;have htab:w.var? prog (prog.globals[3]!).name=some (Lib.pow10Tab.map λz=>Value.int .u64 z).toArray:=by
  obtain⟨hF,cur,e,fz,hb,hcc⟩:=Qxl _ _ hg;have hgn:prog.globalNamed (prog.globals[3]!).name=some 3:=by kernel_rfl
  unfold World.var?;rw[hgn];simp only[Option.bind_some,hb];congr 1;have e1:Qs6=(Lib.pow10Tab.map λz=>Value.int .u64 z).map tv:=by kernel_rfl
  rw[e1] at hcc;have:=Qod hcc (Lib.pow10Tab.map λz=>Value.int .u64 z) rfl;have h2:Value.agg cur.toList.toArray=Value.agg (Lib.pow10Tab.map λz=>Value.int .u64 z).toArray:=this;simpa using h2
 refine Calls.mono (Any.strconv_Itoa itoaLay n hl.1 hl.2 w htab) ?_;rintro en w' ⟨rfl,k,os,rfl⟩;refine⟨undef,_,rfl,⟨rfl,rfl,rfl,by simp[Sort.grow,World.drewN],λj hj _=>?_⟩,Qfn,rfl⟩;simp[Sort.grow,World.drewN,Array.getElem?_append,hj]

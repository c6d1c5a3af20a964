/- What the library's functions do that the typing rows reach. No condition. -/
import Derived.Test.YtmhcoofnnmiejaaGreatDoorBase
import Derived.Test.YtmhcoofnnmiejaaGreatDoorLibI
import Derived.WalkKit
import Derived.Lib.Walk
set_option linter.all false
open List Go.Proofs.Tryz
namespace Go.Proofs.YtmhcoofnnmiejaaGreatDoor
open Go.Sim Go.RowKit
variable {r:Str} {w1:Value}
def bInfo:(prog.info? 287).map (λi=>(i.zero,i.size,i.bytes))=some (some (.agg #[.pointer none,.slice none 0 0]),2,32):=by kernel_rfl
def bSize:(prog.info? 287).map (·.size)=some 2:=by kernel_rfl
def bLies:liesAt prog prog.depth 287 (2 / prog.cellsOf 287) 0 287 1=true:=by kernel_rfl
set_option maxHeartbeats 1000000 in
set_option maxRecDepth 100000 in
def QA7 (b:Nat) (w:World) (h0:w.cell? ⟨b,0,none⟩=some (.pointer (some ⟨b,0,none⟩))):
  Calls prog 222 #[.pointer (some ⟨b,0,none⟩)] w λe w'=>e=.returned (.tuple #[])/\w'=w:=by
 obtain⟨j,a,_⟩:=Option.map_eq_some_iff.1 bSize;have c:=run_underlying underlying284;have u2:=run_underlying underlying287
 go_enter func222,ntmps222
 go_wp2
 rw[Lib.run_neq_ptr_same w _ underlying284 a]
 go_wp2
 go_end0
 exact⟨rfl,rfl⟩
set_option maxHeartbeats 1000000 in
set_option maxRecDepth 100000 in
def QyH (b:Nat) (w:World) (h0:w.cell? ⟨b,0,none⟩=some (.pointer none)) (a:w.shape? b=some (287,2)) (f:w.frozen? ⟨b,0,none⟩=false):
  Calls prog 222 #[.pointer (some ⟨b,0,none⟩)] w λe w'=>e=.returned (.tuple #[])/\w'=w.setCell ⟨b,0,none⟩ (.pointer (some ⟨b,0,none⟩)):=by
 obtain⟨j,d,c⟩:=Option.map_eq_some_iff.1 bSize
 go_enter func222,ntmps222
 go_wp2
 rw[Lib.run_to_unsafe w ⟨b,0,none⟩ underlying284 underlying314 d (by rw[c];decide) a (Nat.zero_lt_succ 1)];simp only[Result.andThen];rw[Oper.upon_value]
 go_wp2
 rw[run_callFunc_extern func230 (by kernel_rfl) (by kernel_rfl) (by kernel_rfl) (e:=Extern.AbiNoEscape.same) (by kernel_rfl)];rw[Lib.run_noEscape];simp only[Result.andThen];rw[Oper.upon_value]
 go_wp2
 rw[Lib.run_from_unsafe w ⟨b,0,none⟩ underlying314 underlying284 d a bLies];simp only[Result.andThen];rw[Oper.upon_value]
 go_wp2
 go_end0
 exact⟨rfl,rfl⟩
def tokB:TOk prog 285 (rSl (rInt .u8)) 24 (.slice none 0 0):=⟨⟨_,underlying285,rfl⟩,by kernel_rfl,rfl⟩
def Qok:TOk prog 285 rVal 24 (.slice none 0 0):=⟨⟨_,underlying285,rfl⟩,by kernel_rfl,rfl⟩
def Qwq:TOk prog 5 (rInt .u8) 1 (.int .u8 0):=⟨⟨_,underlying5,rfl⟩,by kernel_rfl,rfl⟩
def fldB:Qz prog 287 1 1:=Qz.mk underlying287 rfl rfl tokB (by decide)
def QyI:Qj prog 222:=⟨⟨_,func222,by kernel_rfl,rfl⟩⟩
def Qh0:Qj prog 197:=⟨⟨_,func197,by kernel_rfl,rfl⟩⟩
def QEK:Qj prog 223:=⟨⟨_,func223,by kernel_rfl,rfl⟩⟩
def Qvi:Qj prog 201:=⟨⟨_,func201,by kernel_rfl,rfl⟩⟩
def QEL:Qj prog 224:=⟨⟨_,func224,by kernel_rfl,rfl⟩⟩
def bldOk {l:Str} {q v:Value} {F:Blk} {w:World} (h:(bld l q v).ok F w):∃b u,q=.pointer (some ⟨b,0,none⟩)/\w.heap[b]?=some (.cells #[u,v] 287 (0,0))/\(u=.pointer none\/u=q):=by
 obtain⟨⟨b,cur,i,hb,f,k⟩,_⟩:=h;have hl:cur.toList.length=2:=f.1;obtain⟨c,d,a⟩:∃c d,cur.toList=[c,d]:=by
  match hm:cur.toList,hl with
  | [c,d],_=>exact⟨c,d,rfl⟩
 have e:cur=#[c,d]:=by apply Array.ext';simpa using a
 have h0:=f.2 0 _ c rfl (by rw[a];rfl);have j:=f.2 1 _ d rfl (by rw[a];rfl);have g:d=v:=j.1;subst g;exact⟨b,c,i,by rw[hb,e],h0.1⟩
def Qnr {l:Str} {q v:Value}:FnOk prog 222 [tv q] [bld l q v] (λ_=>[bld l q v]) (λ_=>ttup []):=by
 intro M w vs I K L E;obtain⟨t,y⟩:=K _ (mem_singleton.2 rfl);obtain⟨b,u,d,hb,hu⟩:=bldOk t;have C:vs=[q]:=by
  match vs,E.1 with
  | [x],_=>have hx:=E.2 0 _ x rfl rfl;have:x=q:=hx;rw[this]
 subst C;have N:b<w.heap.size:=(Array.getElem?_eq_some_iff.1 hb).1;have n:(bld l q v).fp b:=.inl d;have f:∀w':World,w.heap.size<=w'.heap.size->∀k,free M w k->free (next M [bld l q v] [bld l q v]) w' k:=by
  rintro w' O k ⟨F,H⟩;refine⟨by omega,?_⟩;rintro (⟨hm,_⟩ | hm)
  ·exact H hm
  ·exact H (y k (Qac.1 hm))
 have a:∀w':World,w.heap.size<=w'.heap.size->∀k,(bld l q v).fp k->(QaP [bld l q v] k\/w.heap.size<=k)/\k<w'.heap.size:=λw' O k o=>⟨.inl (Qac.2 o),by have:=I k (y k o);omega⟩;rw[d];rcases hu with hu | hu
 ·have h0:w.cell? ⟨b,0,none⟩=some (.pointer none):=by simp[World.cell?,hb,hu]
  refine Calls.mono (QyH b w h0 (by simp[World.shape?,hb]) (by simp[World.frozen?,hb])) ?_;rintro P w' ⟨rfl,rfl⟩;have z:(w.setCell ⟨b,0,none⟩ (.pointer (some ⟨b,0,none⟩))).heap[b]?=some (.cells #[q,v] 287 (0,0)):=by rw[d];simp[World.setCell,Array.getElem?_modify,hb]
  have c:∀k,k≠b->(w.setCell ⟨b,0,none⟩ (.pointer (some ⟨b,0,none⟩))).heap[k]?=w.heap[k]?:=λk o=>by simp[World.setCell,Array.getElem?_modify,Ne.symm o]
  have m:w.heap.size<=(w.setCell ⟨b,0,none⟩ (.pointer (some ⟨b,0,none⟩))).heap.size:=by simp[World.setCell]
  rw[<-d] at z c m ⊢;refine⟨undef,_,rfl,⟨rfl,rfl,rfl,m,λk _ Q=>c k (λe=>Q (Qac.2 (e▸n)))⟩,Qbx (a _ m) ?_,⟨[],rfl,rfl,λj T u h=>by simp at h⟩⟩;obtain⟨p,A,s⟩:=t;refine⟨⟨b,_,d,z,?_,?_⟩,?_,s⟩
  ·obtain⟨D,cur,g,i,B,_⟩:=p;have:D=b:=by rw[d] at g;simpa using g.symm
   subst this;rw[hb] at i;cases i;have R:=B.2 1 _ v rfl rfl;exact .cons ⟨.inr rfl,by rw[d];rfl⟩ (.cons R .nil)
  ·obtain⟨D,cur,g,i,B,F⟩:=p;have:D=b:=by rw[d] at g;simpa using g.symm
   subst this;rw[hb] at i;cases i;intro x hx;simp at hx;rcases hx with rfl | rfl
   ·rw[d];rfl
   ·exact F _ (by simp)
  ·refine Atom.keep _ (f _ m) (λk o=>c k (λe=>o.2 (y k (e▸n)))) (λk o=>c k (λe=>?_)) A;exact s k (e▸d) o
 ·have h0:w.cell? ⟨b,0,none⟩=some (.pointer (some ⟨b,0,none⟩)):=by simp[World.cell?,hb,hu,d]
  refine Calls.mono (QA7 b w h0) ?_;rintro P w' ⟨rfl,rfl⟩;rw[<-d];exact⟨undef,_,rfl,Step.refl _ _,Qbx (a _ (Nat.le_refl _)) (Atom.keep _ (f _ (Nat.le_refl _)) (λ_ _=>rfl) (λ_ _=>rfl) t),⟨[],rfl,rfl,λj T u h=>by simp at h⟩⟩
def QbI (l s:Str):Option Str:=if l.length+s.length<=68719476736 then some (l++s) else none
def QjM (l:Str) (c:Int):Option Str:=if 0<=c/\c<256/\l.length+1<=68719476736 then some (l++[UInt8.ofNat c.toNat]) else none
def QiB (l:Str):Option Str:=if l=[] then none else some l
def QpT (n:Int):Option Str:=if -9223372036854775808<=n/\n<=9223372036854775807 then some (Lib.itoa n) else none
set_option maxRecDepth 100000 in
def Qcr {q:Value} {l s:Str} (h:QbI l s=some r):FnOk prog 197 [tv q,tv (.string (sB s))] [bld l q w1] (λv=>[bld r q v]) (λ_=>ttup [ti (s.length:Int),tv .nilIface]):=by
 unfold QbI at h;split at h
 case isFalse=>cases h
 rename_i hl;obtain rfl:=Option.some.inj h;have j:rm ((Qab l).length+s.length)=some ():=by unfold rm;rw[if_pos (by simpa[Qab] using hl)]
 have eb:Qab l++Qab s=Qab (l++s):=by simp[Qab]
 refine FnOk.enter func197 rfl ntmps197 (Nat.le_of_ble_eq_true rfl) (λk M d a i b=>?_);replace b:St M d 19 [(0,tv q),(1,tv (.string (sB s)))] [bld l q w1] a d:=b;refine wp_seq_k (λf c=>?_);refine Qdq mixed [] b (λ_=>.p rfl (Ql .k)<|.p rfl (Ql .k)<|.nil _ _) (by kernel_rfl) (λm a w b=>?_);replace b:St M d 19 [(0,tv q),(1,tv (.string (sB s)))] [bld l q w1] a w:=b.pick [2,3];refine c _ _ ?_;clear c f;refine wp_seq_k (λf c=>?_);refine Qdq mixed [v0 (bld l q w1)] b (λ_=>.p rfl (Qaa (.t 0 rfl))<|.e [] [0] [1] rfl rfl rfl rfl (QO QyI Qnr (.cons (.of (.t 0 rfl))<|.nil))<|.nil _ _) (by kernel_rfl) (λn a w b=>?_);replace b:St M d 19 [(0,tv q),(1,tv (.string (sB s)))] [boxT 287 [tbp q,tvs w1] q,own (rInt .u8) 5 (Qab l) w1] a w:=St.open2 (b.pick [2,3]);refine c _ _ ?_;clear c f;refine wp_seq_k (λf c=>?_);refine Qdq mixed [v1 6 (λv=>own (rInt .u8) 5 (Qab l++Qab s) v),v1 6 (λv=>boxT 287 [tbp q,tvs v] q)] b (λg=>.p rfl (Qaa (.t 0 rfl))<|.p rfl (Qaa (.t 1 rfl))<|.u [0] rfl rfl (.rT (Qax (.t 0 rfl)))<|.u [0] rfl rfl (.rT (Q5 fldB (.t 0 rfl)))<|.u [0] rfl rfl (.rT (Qat (u:=w1) Qok (.t 0 rfl) rfl))<|.p rfl (Qaa (.t 6 rfl))<|.e [] [1] [2] rfl rfl rfl rfl (Qv0 underlying285 underlying9 Qwq (.t 1 rfl) (.t 0 rfl) j)<|.u [0] rfl rfl (.rT (Qax (.t 6 rfl)))<|.u [0] rfl rfl (.rT (Q5 fldB (.t 0 rfl)))<|.e [2] [0] [3] rfl rfl rfl rfl (Qpy (R:=rInt .u8) (e:=5) (xs:=Qab l++Qab s) (Ts:=[tbp q,tvs w1]) (off:=1) Qok (.t 0 rfl) (.t 2 rfl) (Nat.le_of_ble_eq_true rfl))<|.nil _ _) (by kernel_rfl) (λg a w b=>?_);replace b:St M d 19 [(1,tv (.string (sB s)))] [own (rInt .u8) 5 (Qab l++Qab s) (g 6),boxT 287 [tbp q,tvs (g 6)] q] a w:=b.pick [10];rw[eb] at b;replace b:St M d 19 [(1,tv (.string (sB s)))] [bld (l++s) q (g 6)] a w:=St.close2 b.swap;refine c _ _ ?_;clear c f;refine wp_seq_k (λf c=>?_);refine Qdq mixed [] b (λ_=>.p rfl (Qaa (.t 0 rfl))<|.p rfl (op_lenS' underlying9 (.t 0 rfl))<|.p rfl (Ql (.t 0 rfl))<|.p rfl (Ql .k)<|.nil _ _) (by kernel_rfl) (λo a w b=>?_);replace b:St M d 19 [(4,ti (s.length:Int)),(5,tv .nilIface)] [bld (l++s) q (g 6)] a w:=b.pick [2,3];refine c _ _ ?_;clear c f;refine wp_ret ?_;exact QfT (g 6) [0] i b rfl (.tmp (.t 0 rfl) (.tmp (.t 1 rfl) .nil)) rfl rfl rfl
set_option maxRecDepth 100000 in
def QrO {q:Value} {l:Str} {c:Int} (h:QjM l c=some r):FnOk prog 223 [tv q,tv (.int .u8 c)] [bld l q w1] (λv=>[bld r q v]) (λ_=>tv .nilIface):=by
 unfold QjM at h;split at h
 case isFalse=>cases h
 rename_i hl;obtain⟨k,m,hl⟩:=hl;obtain rfl:=Option.some.inj h;have n:rm ((Qab l).length+[c].length)=some ():=by unfold rm;rw[if_pos (by simpa[Qab] using hl)]
 have eb:Qab l++[c]=Qab (l++[UInt8.ofNat c.toNat]):=by simp only[Qab,map_append,map_cons,map_nil];congr 2;simp only[UInt8.toNat_ofNat'];omega
 refine FnOk.enter func223 rfl ntmps223 (Nat.le_of_ble_eq_true rfl) (λo M f a j b=>?_);replace b:St M f 17 [(0,tv q),(1,tv (.int .u8 c))] [bld l q w1] a f:=b;refine wp_seq_k (λg d=>?_);refine Qdq mixed [] b (λ_=>.p rfl (Ql .k)<|.nil _ _) (by kernel_rfl) (λp a w b=>?_);replace b:St M f 17 [(0,tv q),(1,tv (.int .u8 c))] [bld l q w1] a w:=b.pick [1,2];refine d _ _ ?_;clear d g;refine wp_seq_k (λg d=>?_);refine Qdq mixed [v0 (bld l q w1)] b (λ_=>.p rfl (Qaa (.t 0 rfl))<|.e [] [0] [1] rfl rfl rfl rfl (QO QyI Qnr (.cons (.of (.t 0 rfl))<|.nil))<|.nil _ _) (by kernel_rfl) (λs a w b=>?_);replace b:St M f 17 [(0,tv q),(1,tv (.int .u8 c))] [boxT 287 [tbp q,tvs w1] q,own (rInt .u8) 5 (Qab l) w1] a w:=St.open2 (b.pick [2,3]);refine d _ _ ?_;clear d g;refine wp_seq_k (λg d=>?_);refine Qdq mixed [v1 7 (λv=>own (rInt .u8) 5 (Qab l++[c]) v),v1 7 (λv=>boxT 287 [tbp q,tvs v] q)] b (λi=>.p rfl (Qaa (.t 0 rfl))<|.p rfl (Qaa (.t 1 rfl))<|.u [0] rfl rfl (.rT (Qax (.t 0 rfl)))<|.u [0] rfl rfl (.rT (Q5 fldB (.t 0 rfl)))<|.u [0] rfl rfl (.rT (Qat (u:=w1) Qok (.t 0 rfl) rfl))<|.p rfl (Qaa (.t 6 rfl))<|
  .p rfl (Qaw (R:=rInt .u8) (us:=[c]) underlying285 Qwq (.cons (.t 0 rfl)<|.nil _) rfl (Nat.le_of_ble_eq_true rfl))<|
  .e [] [1] [2] rfl rfl rfl rfl (Qbr (R:=rInt .u8) underlying285 Qwq (Nat.le_of_ble_eq_true rfl) (.t 2 rfl) (.t 0 rfl) n)<|.u [0] rfl rfl (.rT (Qax (.t 7 rfl)))<|.u [0] rfl rfl (.rT (Q5 fldB (.t 0 rfl)))<|.e [2] [0] [3] rfl rfl rfl rfl (Qpy (R:=rInt .u8) (e:=5) (xs:=Qab l++[c]) (Ts:=[tbp q,tvs w1]) (off:=1) Qok (.t 0 rfl) (.t 2 rfl) (Nat.le_of_ble_eq_true rfl))<|.nil _ _) (by kernel_rfl) (λi a w b=>?_)
 replace b:St M f 17 [] [own (rInt .u8) 5 (Qab l++[c]) (i 7),boxT 287 [tbp q,tvs (i 7)] q] a w:=b.pick [];rw[eb] at b;replace b:St M f 17 [] [bld (l++[UInt8.ofNat c.toNat]) q (i 7)] a w:=St.close2 b.swap;refine d _ _ ?_;clear d g;refine wp_seq_k (λg d=>?_);refine Qdq mixed [] b (λ_=>.p rfl (Ql .k)<|.nil _ _) (by kernel_rfl) (λt a w b=>?_);replace b:St M f 17 [(4,tv .nilIface)] [bld (l++[UInt8.ofNat c.toNat]) q (i 7)] a w:=b.pick [0];refine d _ _ ?_;clear d g;refine wp_ret ?_;exact QfT (i 7) [0] j b rfl (.tmp (.t 0 rfl) .nil) rfl rfl rfl
set_option maxRecDepth 100000 in
def QpU {q:Value} {l:Str} (h:QiB l=some r):FnOk prog 201 [tv q] [bld l q w1] (λ_=>[]) (λ_=>tv (.string (sB r))):=by
 unfold QiB at h;split at h
 case isTrue=>cases h
 rename_i hne;obtain rfl:=Option.some.inj h;have d:Qab l≠[]:=λe=>hne (by simpa[Qab] using e);refine FnOk.enter func201 rfl ntmps201 (Nat.le_of_ble_eq_true rfl) (λk M f a g b=>?_);replace b:St M f 14 [(0,tv q)] [bld l q w1] a f:=b;refine wp_seq_k (λi c=>?_);refine Qdq mixed [] b (λ_=>.p rfl (Ql .k)<|.nil _ _) (by kernel_rfl) (λm a w b=>?_);replace b:St M f 14 [(0,tv q)] [boxT 287 [tbp q,tvs w1] q,own (rInt .u8) 5 (Qab l) w1] a w:=St.open2 (b.pick [1]);refine c _ _ ?_;clear c i;refine wp_seq_k (λi c=>?_);refine Qdq mixed [] b (λj=>.p rfl (Qaa (.t 0 rfl))<|.u [0] rfl rfl (.rT (Qax (.t 0 rfl)))<|.u [0] rfl rfl (.rT (Q5 fldB (.t 0 rfl)))<|.u [0] rfl rfl (.rT (Qat (u:=w1) Qok (.t 0 rfl) rfl))<|.u [1] rfl rfl (Qsp d (.t 0 rfl))<|
  .p rfl (Qaa (.t 5 rfl))<|.u [0] rfl rfl (.rT (Qax (.t 0 rfl)))<|.u [0] rfl rfl (.rT (Q5 fldB (.t 0 rfl)))<|.u [0] rfl rfl (.rT (Qat (u:=w1) Qok (.t 0 rfl) rfl))<|.u [1] rfl rfl (Qg3 (R:=rInt .u8) (xs:=Qab l) underlying285 (.t 0 rfl))<|
  .e [] [1] [] rfl rfl rfl rfl (Qpz (l:=l) underlying310 (by kernel_rfl) hne (.t 5 rfl) (.t 0 rfl))<|.p rfl (Ql (.t 0 rfl))<|.nil _ _) (by kernel_rfl) (λj a w b=>?_)
 replace b:St M f 14 [(2,tv (.string (sB l)))] [boxT 287 [tbp q,tvs w1] q] a w:=b.pick [11];refine c _ _ ?_;clear c i;refine wp_ret ?_;exact QfT undef [] g b rfl (.tmp (.t 0 rfl) .nil) rfl rfl rfl
def QEM {n:Int} (h:QpT n=some r):FnOk prog 224 [ti n] [glo] (λ_=>[]) (λ_=>tv (.string (sB r))):=by
 unfold QpT at h;split at h
 case isFalse=>cases h
 rename_i hl;obtain rfl:=Option.some.inj h;intro M w vs p g i f;obtain⟨l,_⟩:=g _ (mem_singleton.2 rfl);have c:vs=[.int .i64 n]:=by
  match vs,f.1 with
  | [x],_=>have hx:=f.2 0 _ x rfl rfl;have:x=.int .i64 n:=hx;rw[this]
 subst c;have a:w.var? prog (prog.globals[2]!).name=some (Lib.pow10Tab.map λz=>Value.int .u64 z).toArray:=by
  obtain⟨q,cur,e,s,hb,b⟩:=QC9 _ _ l;have d:prog.globalNamed (prog.globals[2]!).name=some 2:=by kernel_rfl
  unfold World.var?;rw[d];simp only[Option.bind_some,hb];congr 1;have e1:Qwi=(Lib.pow10Tab.map λz=>Value.int .u64 z).map tv:=by kernel_rfl
  rw[e1] at b;have:=QvZ b (Lib.pow10Tab.map λz=>Value.int .u64 z) rfl;have m:Value.agg cur.toList.toArray=Value.agg (Lib.pow10Tab.map λz=>Value.int .u64 z).toArray:=this;simpa using m
 refine Calls.mono (Any.strconv_Itoa itoaLay n hl.1 hl.2 w a) ?_;rintro t w' ⟨rfl,k,os,rfl⟩;refine⟨undef,_,rfl,⟨rfl,rfl,rfl,by simp[Sort.grow,World.drewN],λj o _=>?_⟩,Qgp,rfl⟩;simp[Sort.grow,World.drewN,Array.getElem?_append,o]

/- What the library's functions do that the typing rows reach. No condition. -/
import Derived.Test.YtohojolgolinoaaGreatDoorBase
import Derived.Test.YtohojolgolinoaaGreatDoorLibI
import Derived.WalkKit
import Derived.Lib.Walk
set_option linter.all false
open List Go.Proofs.Tryz
namespace Go.Proofs.YtohojolgolinoaaGreatDoor
open Go.Sim Go.RowKit
variable {r:Str} {w1:Value}
def bInfo:(prog.info? 293).map (λi=>(i.zero,i.size,i.bytes))=some (some (.agg #[.pointer none,.slice none 0 0]),2,32):=kr
def bSize:(prog.info? 293).map (·.size)=some 2:=kr
def bLies:liesAt prog prog.depth 293 (2 / prog.cellsOf 293) 0 293 1=true:=kr
set_option maxHeartbeats 1000000 in
set_option maxRecDepth 100000 in
def iJ (b:Nat) (w:World) (h0:w.cell? ⟨b,0,none⟩=some (.pointer (some ⟨b,0,none⟩))):
  Calls prog 252 #[.pointer (some ⟨b,0,none⟩)] w λe w'=>e=.returned (.tuple #[])/\w'=w:=by
 have⟨j,a,_⟩:=Option.map_eq_some_iff.1 bSize;have c:=run_underlying underlying290;have u2:=run_underlying underlying293
 go_enter func252,ntmps252
 go_wp2
 rw[Lib.run_neq_ptr_same w _ underlying290 a]
 go_wp2
 go_end0
 exact⟨rfl,rfl⟩
set_option maxHeartbeats 1000000 in
set_option maxRecDepth 100000 in
def iK (b:Nat) (w:World) (h0:w.cell? ⟨b,0,none⟩=some (.pointer none)) (a:w.shape? b=some (293,2)) (f:w.frozen? ⟨b,0,none⟩=false):
  Calls prog 252 #[.pointer (some ⟨b,0,none⟩)] w λe w'=>e=.returned (.tuple #[])/\w'=w.setCell ⟨b,0,none⟩ (.pointer (some ⟨b,0,none⟩)):=by
 have⟨j,d,c⟩:=Option.map_eq_some_iff.1 bSize
 go_enter func252,ntmps252
 go_wp2
 rw[Lib.run_to_unsafe w ⟨b,0,none⟩ underlying290 underlying340 d (by rw[c];decide) a (Nat.zero_lt_succ 1)];simp only[Result.andThen];rw[Oper.upon_value]
 go_wp2
 rw[run_callFunc_extern func271 kr kr kr (e:=Extern.AbiNoEscape.same) kr];rw[Lib.run_noEscape];simp only[Result.andThen];rw[Oper.upon_value]
 go_wp2
 rw[Lib.run_from_unsafe w ⟨b,0,none⟩ underlying340 underlying290 d a bLies];simp only[Result.andThen];rw[Oper.upon_value]
 go_wp2
 go_end0
 exact⟨rfl,rfl⟩
def tokB:TOk prog 291 (rSl (rInt .u8)) 24 (.slice none 0 0):=⟨⟨_,underlying291,rfl⟩,kr,rfl⟩
def H2:TOk prog 291 rVal 24 (.slice none 0 0):=⟨⟨_,underlying291,rfl⟩,kr,rfl⟩
def Py:TOk prog 5 (rInt .u8) 1 (.int .u8 0):=⟨⟨_,underlying5,rfl⟩,kr,rfl⟩
def fldB:Qz prog 293 1 1:=Qz.mk underlying293 rfl rfl tokB dc
def Uk:Qj prog 252:=⟨⟨_,func252,kr,rfl⟩⟩
def bldOk {l:Str} {q v:Value} {F:Blk} {w:World} (h:(bld l q v).ok F w):∃b u,q=.pointer (some ⟨b,0,none⟩)/\w.heap[b]?=some (.cells #[u,v] 293 (0,0))/\(u=.pointer none\/u=q):=by
 have⟨⟨b,cur,g,hb,hc,j⟩,_⟩:=h;have hl:cur.toList.length=2:=hc.1;obtain⟨c,d,a⟩:∃c d,cur.toList=[c,d]:=by
  match hm:cur.toList,hl with
  | [c,d],_=>exact⟨c,d,rfl⟩
 have e:cur=#[c,d]:=by apply Array.ext';simpa using a
 have h0:=hc.2 0 _ c rfl (by rw[a];rfl);have i:=hc.2 1 _ d rfl (by rw[a];rfl);have f:d=v:=i.1;subst f;exact⟨b,c,g,by rw[hb,e],h0.1⟩
def Ul {l:Str} {q v:Value}:FnOk prog 252 [tv q] [bld l q v] (λ_=>[bld l q v]) (λ_=>ttup []):=by
 intro M w vs H I K hc;have⟨t,y⟩:=I _ (mem_singleton.2 rfl);have⟨b,u,d,hb,hu⟩:=bldOk t;have C:vs=[q]:=by
  match vs,hc.1 with
  | [x],_=>have hx:=hc.2 0 _ x rfl rfl;have:x=q:=hx;rw[this]
 subst C;have L:b<w.heap.size:=(Array.getElem?_eq_some_iff.1 hb).1;have n:(bld l q v).fp b:=.inl d;have f:∀w':World,w.heap.size<=w'.heap.size->∀k,free M w k->free (next M [bld l q v] [bld l q v]) w' k:=by
  rintro w' N k ⟨E,F⟩;refine⟨om,?_⟩;rintro (⟨hm,_⟩ | hm)
  ·exact F hm
  ·exact F (y k (AU.1 hm))
 have a:∀w':World,w.heap.size<=w'.heap.size->∀k,(bld l q v).fp k->(AR [bld l q v] k\/w.heap.size<=k)/\k<w'.heap.size:=λw' N k o=>⟨.inl (AU.2 o),by have:=H k (y k o);omega⟩;rw[d];rcases hu with hu | hu
 ·have h0:w.cell? ⟨b,0,none⟩=some (.pointer none):=by simp[World.cell?,hb,hu]
  apply Calls.mono (iK b w h0 (by simp[World.shape?,hb]) (by simp[World.frozen?,hb]));rintro O w' ⟨rfl,rfl⟩;have z:(w.setCell ⟨b,0,none⟩ (.pointer (some ⟨b,0,none⟩))).heap[b]?=some (.cells #[q,v] 293 (0,0)):=by rw[d];simp[World.setCell,Array.getElem?_modify,hb]
  have c:∀k,k≠b->(w.setCell ⟨b,0,none⟩ (.pointer (some ⟨b,0,none⟩))).heap[k]?=w.heap[k]?:=λk o=>by simp[World.setCell,Array.getElem?_modify,Ne.symm o]
  have m:w.heap.size<=(w.setCell ⟨b,0,none⟩ (.pointer (some ⟨b,0,none⟩))).heap.size:=by simp[World.setCell]
  rw[<-d] at z c m ⊢;refine⟨undef,_,rfl,⟨rfl,rfl,rfl,m,λk _ P=>c k (λe=>P (AU.2 (e▸n)))⟩,BX (a _ m) ?_,⟨[],rfl,rfl,λj T u h=>by simp at h⟩⟩;have⟨p,A,s⟩:=t;refine⟨⟨b,_,d,z,?_,?_⟩,?_,s⟩
  ·have⟨D,cur,g,i,B,_⟩:=p;have:D=b:=by rw[d] at g;simpa using g.symm
   subst this;rw[hb] at i;cases i;have Q:=B.2 1 _ v rfl rfl;exact .cons ⟨.inr rfl,by rw[d];rfl⟩ (.cons Q .nil)
  ·have⟨D,cur,g,i,B,E⟩:=p;have:D=b:=by rw[d] at g;simpa using g.symm
   subst this;rw[hb] at i;cases i;intro x hx;simp at hx;rcases hx with rfl | rfl
   ·rw[d];rfl
   ·exact E _ sm
  ·refine Atom.keep _ (f _ m) (λk o=>c k (λe=>o.2 (y k (e▸n)))) (λk o=>c k (λe=>?_)) A;exact s k (e▸d) o
 ·have h0:w.cell? ⟨b,0,none⟩=some (.pointer (some ⟨b,0,none⟩)):=by simp[World.cell?,hb,hu,d]
  apply Calls.mono (iJ b w h0);rintro O w' ⟨rfl,rfl⟩;rw[<-d];exact⟨undef,_,rfl,Step.refl _ _,BX (a _ (Nat.le_refl _)) (Atom.keep _ (f _ (Nat.le_refl _)) (λ_ _=>rfl) (λ_ _=>rfl) t),⟨[],rfl,rfl,λj T u h=>by simp at h⟩⟩
def DW (l s:Str):Option Str:=if l.length+s.length<=68719476736 then some (l++s) else none
def Lh (l:Str) (c:Int):Option Str:=if 0<=c/\c<256/\l.length+1<=68719476736 then some (l++[UInt8.ofNat c.toNat]) else none
def GW (l:Str):Option Str:=if l=[] then none else some l
def Ix (n:Int):Option Str:=if -9223372036854775808<=n/\n<=9223372036854775807 then some (Lib.itoa n) else none
set_option maxRecDepth 100000 in
def FB {q:Value} {l s:Str} (h:DW l s=some r):FnOk prog 215 [tv q,tv (.string (sB s))] [bld l q w1] (λv=>[bld r q v]) (λ_=>ttup [ti (s.length:Int),tv .nilIface]):=by
 unfold DW at h;split at h
 case isFalse=>cases h
 rename_i hl;obtain rfl:=Option.some.inj h;have j:rm ((AF l).length+s.length)=some ():=by unfold rm;rw[if_pos (by simpa[AF] using hl)]
 have eb:AF l++AF s=AF (l++s):=by simp[AF]
 refine FnOk.enter func215 rfl ntmps215 (Nat.le_of_ble_eq_true rfl) (λk M d a i b=>?_);replace b:St M d 19 [(0,tv q),(1,tv (.string (sB s)))] [bld l q w1] a d:=b;refine wp_seq_k (λf c=>?_);refine CQ mixed [] b (λ_=>.p rfl (Ql .k)<|.p rfl (Ql .k)<|.nil _ _) kr (λm a w b=>?_);replace b:St M d 19 [(0,tv q),(1,tv (.string (sB s)))] [bld l q w1] a w:=b.pick [2,3];apply c _ _;clear c f;refine wp_seq_k (λf c=>?_);refine CQ mixed [v0 (bld l q w1)] b (λ_=>.p rfl (CS (.t 0 rfl))<|.e [] [0] [1] rfl rfl rfl rfl (QO Uk Ul (.cons (.of (.t 0 rfl))<|.nil))<|.nil _ _) kr (λn a w b=>?_);replace b:St M d 19 [(0,tv q),(1,tv (.string (sB s)))] [boxT 293 [tbp q,tvs w1] q,own (rInt .u8) 5 (AF l) w1] a w:=St.open2 (b.pick [2,3]);apply c _ _;clear c f;refine wp_seq_k (λf c=>?_);refine CQ mixed [v1 6 (λv=>own (rInt .u8) 5 (AF l++AF s) v),v1 6 (λv=>boxT 293 [tbp q,tvs v] q)] b (λg=>.p rfl (CS (.t 0 rfl))<|.p rfl (CS (.t 1 rfl))<|.u [0] rfl rfl (.rT (Fy (.t 0 rfl)))<|.u [0] rfl rfl (.rT (Q5 fldB (.t 0 rfl)))<|.u [0] rfl rfl (.rT (Fx (u:=w1) H2 (.t 0 rfl) rfl))<|.p rfl (CS (.t 6 rfl))<|.e [] [1] [2] rfl rfl rfl rfl (iL underlying291 underlying9 Py (.t 1 rfl) (.t 0 rfl) j)<|.u [0] rfl rfl (.rT (Fy (.t 6 rfl)))<|.u [0] rfl rfl (.rT (Q5 fldB (.t 0 rfl)))<|.e [2] [0] [3] rfl rfl rfl rfl (Um (R:=rInt .u8) (e:=5) (xs:=AF l++AF s) (Ts:=[tbp q,tvs w1]) (off:=1) H2 (.t 0 rfl) (.t 2 rfl) (Nat.le_of_ble_eq_true rfl))<|.nil _ _) kr (λg a w b=>?_);replace b:St M d 19 [(1,tv (.string (sB s)))] [own (rInt .u8) 5 (AF l++AF s) (g 6),boxT 293 [tbp q,tvs (g 6)] q] a w:=b.pick [10];rw[eb] at b;replace b:St M d 19 [(1,tv (.string (sB s)))] [bld (l++s) q (g 6)] a w:=St.close2 b.swap;apply c _ _;clear c f;refine wp_seq_k (λf c=>?_);refine CQ mixed [] b (λ_=>.p rfl (CS (.t 0 rfl))<|.p rfl (op_lenS' underlying9 (.t 0 rfl))<|.p rfl (Ql (.t 0 rfl))<|.p rfl (Ql .k)<|.nil _ _) kr (λo a w b=>?_);replace b:St M d 19 [(4,ti (s.length:Int)),(5,tv .nilIface)] [bld (l++s) q (g 6)] a w:=b.pick [2,3];apply c _ _;clear c f;apply wp_ret;exact FE (g 6) [0] i b rfl (.tmp (.t 0 rfl) (.tmp (.t 1 rfl) .nil)) rfl rfl rfl
set_option maxRecDepth 100000 in
def fH {q:Value} {l:Str} {c:Int} (h:Lh l c=some r):FnOk prog 253 [tv q,tv (.int .u8 c)] [bld l q w1] (λv=>[bld r q v]) (λ_=>tv .nilIface):=by
 unfold Lh at h;split at h
 case isFalse=>cases h
 rename_i hl;have⟨k,m,hl⟩:=hl;obtain rfl:=Option.some.inj h;have n:rm ((AF l).length+[c].length)=some ():=by unfold rm;rw[if_pos (by simpa[AF] using hl)]
 have eb:AF l++[c]=AF (l++[UInt8.ofNat c.toNat]):=by simp only[AF,map_append,map_cons,map_nil];congr 2;simp only[UInt8.toNat_ofNat'];omega
 refine FnOk.enter func253 rfl ntmps253 (Nat.le_of_ble_eq_true rfl) (λo M f a j b=>?_);replace b:St M f 17 [(0,tv q),(1,tv (.int .u8 c))] [bld l q w1] a f:=b;refine wp_seq_k (λg d=>?_);refine CQ mixed [] b (λ_=>.p rfl (Ql .k)<|.nil _ _) kr (λp a w b=>?_);replace b:St M f 17 [(0,tv q),(1,tv (.int .u8 c))] [bld l q w1] a w:=b.pick [1,2];apply d _ _;clear d g;refine wp_seq_k (λg d=>?_);refine CQ mixed [v0 (bld l q w1)] b (λ_=>.p rfl (CS (.t 0 rfl))<|.e [] [0] [1] rfl rfl rfl rfl (QO Uk Ul (.cons (.of (.t 0 rfl))<|.nil))<|.nil _ _) kr (λs a w b=>?_);replace b:St M f 17 [(0,tv q),(1,tv (.int .u8 c))] [boxT 293 [tbp q,tvs w1] q,own (rInt .u8) 5 (AF l) w1] a w:=St.open2 (b.pick [2,3]);apply d _ _;clear d g;refine wp_seq_k (λg d=>?_);refine CQ mixed [v1 7 (λv=>own (rInt .u8) 5 (AF l++[c]) v),v1 7 (λv=>boxT 293 [tbp q,tvs v] q)] b (λi=>.p rfl (CS (.t 0 rfl))<|.p rfl (CS (.t 1 rfl))<|.u [0] rfl rfl (.rT (Fy (.t 0 rfl)))<|.u [0] rfl rfl (.rT (Q5 fldB (.t 0 rfl)))<|.u [0] rfl rfl (.rT (Fx (u:=w1) H2 (.t 0 rfl) rfl))<|.p rfl (CS (.t 6 rfl))<|
  .p rfl (Gd (R:=rInt .u8) (us:=[c]) underlying291 Py (.cons (.t 0 rfl)<|.nil _) rfl (Nat.le_of_ble_eq_true rfl))<|
  .e [] [1] [2] rfl rfl rfl rfl (Ef (R:=rInt .u8) underlying291 Py (Nat.le_of_ble_eq_true rfl) (.t 2 rfl) (.t 0 rfl) n)<|.u [0] rfl rfl (.rT (Fy (.t 7 rfl)))<|.u [0] rfl rfl (.rT (Q5 fldB (.t 0 rfl)))<|.e [2] [0] [3] rfl rfl rfl rfl (Um (R:=rInt .u8) (e:=5) (xs:=AF l++[c]) (Ts:=[tbp q,tvs w1]) (off:=1) H2 (.t 0 rfl) (.t 2 rfl) (Nat.le_of_ble_eq_true rfl))<|.nil _ _) kr (λi a w b=>?_)
 replace b:St M f 17 [] [own (rInt .u8) 5 (AF l++[c]) (i 7),boxT 293 [tbp q,tvs (i 7)] q] a w:=b.pick [];rw[eb] at b;replace b:St M f 17 [] [bld (l++[UInt8.ofNat c.toNat]) q (i 7)] a w:=St.close2 b.swap;apply d _ _;clear d g;refine wp_seq_k (λg d=>?_);refine CQ mixed [] b (λ_=>.p rfl (Ql .k)<|.nil _ _) kr (λt a w b=>?_);replace b:St M f 17 [(4,tv .nilIface)] [bld (l++[UInt8.ofNat c.toNat]) q (i 7)] a w:=b.pick [0];apply d _ _;clear d g;apply wp_ret;exact FE (i 7) [0] j b rfl (.tmp (.t 0 rfl) .nil) rfl rfl rfl
set_option maxRecDepth 100000 in
def UL {q:Value} {l:Str} (h:GW l=some r):FnOk prog 219 [tv q] [bld l q w1] (λ_=>[]) (λ_=>tv (.string (sB r))):=by
 unfold GW at h;split at h
 case isTrue=>cases h
 rename_i hne;obtain rfl:=Option.some.inj h;have d:AF l≠[]:=λe=>hne (by simpa[AF] using e);refine FnOk.enter func219 rfl ntmps219 (Nat.le_of_ble_eq_true rfl) (λk M f a g b=>?_);replace b:St M f 14 [(0,tv q)] [bld l q w1] a f:=b;refine wp_seq_k (λi c=>?_);refine CQ mixed [] b (λ_=>.p rfl (Ql .k)<|.nil _ _) kr (λm a w b=>?_);replace b:St M f 14 [(0,tv q)] [boxT 293 [tbp q,tvs w1] q,own (rInt .u8) 5 (AF l) w1] a w:=St.open2 (b.pick [1]);apply c _ _;clear c i;refine wp_seq_k (λi c=>?_);refine CQ mixed [] b (λj=>.p rfl (CS (.t 0 rfl))<|.u [0] rfl rfl (.rT (Fy (.t 0 rfl)))<|.u [0] rfl rfl (.rT (Q5 fldB (.t 0 rfl)))<|.u [0] rfl rfl (.rT (Fx (u:=w1) H2 (.t 0 rfl) rfl))<|.u [1] rfl rfl (iM d (.t 0 rfl))<|
  .p rfl (CS (.t 5 rfl))<|.u [0] rfl rfl (.rT (Fy (.t 0 rfl)))<|.u [0] rfl rfl (.rT (Q5 fldB (.t 0 rfl)))<|.u [0] rfl rfl (.rT (Fx (u:=w1) H2 (.t 0 rfl) rfl))<|.u [1] rfl rfl (Jb (R:=rInt .u8) (xs:=AF l) underlying291 (.t 0 rfl))<|
  .e [] [1] [] rfl rfl rfl rfl (iN (l:=l) underlying327 kr hne (.t 5 rfl) (.t 0 rfl))<|.p rfl (Ql (.t 0 rfl))<|.nil _ _) kr (λj a w b=>?_)
 replace b:St M f 14 [(2,tv (.string (sB l)))] [boxT 293 [tbp q,tvs w1] q] a w:=b.pick [11];apply c _ _;clear c i;apply wp_ret;exact FE undef [] g b rfl (.tmp (.t 0 rfl) .nil) rfl rfl rfl
def fI {n:Int} (h:Ix n=some r):FnOk prog 254 [ti n] [glo] (λ_=>[]) (λ_=>tv (.string (sB r))):=by
 unfold Ix at h;split at h
 case isFalse=>cases h
 rename_i hl;obtain rfl:=Option.some.inj h;intro M w vs o f g hc;have⟨i,_⟩:=f _ (mem_singleton.2 rfl);have c:vs=[.int .i64 n]:=by
  match vs,hc.1 with
  | [x],_=>have hx:=hc.2 0 _ x rfl rfl;have:x=.int .i64 n:=hx;rw[this]
 subst c;have a:w.var? prog (prog.globals[2]!).name=some (Lib.pow10Tab.map λz=>Value.int .u64 z).toArray:=by
  have⟨p,cur,e,q,hb,b⟩:=WX _ _ i;have d:prog.globalNamed (prog.globals[2]!).name=some 2:=by kernel_rfl
  unfold World.var?;rw[d];simp only[Option.bind_some,hb];congr 1;have e1:Nw=(Lib.pow10Tab.map λz=>Value.int .u64 z).map tv:=by kernel_rfl
  rw[e1] at b;have:=iO b (Lib.pow10Tab.map λz=>Value.int .u64 z) rfl;have l:Value.agg cur.toList.toArray=Value.agg (Lib.pow10Tab.map λz=>Value.int .u64 z).toArray:=this;simpa using l
 apply Calls.mono (Any.strconv_Itoa itoaLay n hl.1 hl.2 w a);rintro s w' ⟨rfl,k,os,rfl⟩;refine⟨undef,_,rfl,⟨rfl,rfl,rfl,by simp[Sort.grow,World.drewN],λj m _=>?_⟩,Fz,rfl⟩;simp[Sort.grow,World.drewN,Array.getElem?_append,m]

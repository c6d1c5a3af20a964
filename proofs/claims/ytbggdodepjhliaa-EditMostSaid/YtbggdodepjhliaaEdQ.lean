/- Edit: Refs as a whole. No condition. -/
import Derived.Test.YtbggdodepjhliaaEdP
namespace Go.Proofs.Ytbggdodepjhliaa
open Go.Sim

theorem Qby {F:List Int} {k:Nat} {y:Int} (hk:k<F.length) (i:Nat):uf (F.set k y) i=if i=k then y else uf F i:=by
  have:=Qbx (L:=F) (v:=(k:Int)) (y:=y) (by omega) (by omega) (i:Int) (by omega)
  rw[Int.toNat_natCast] at this
  show lv (F.set k y) (i:Int)=_
  rw[this]
  by_cases e:i=k
  · rw[if_pos (by omega),if_pos e]
  · rw[if_neg (by omega),if_neg e];rfl
theorem Ok.at_uf {β:Type} {Q:β→Prop} {F:List Int} {v:Int} {k:Nat} (hv:v=k) (hk:k<F.length) {f:Int→Option β} (h:Ok (f (uf F k)) Q):Ok ((idx F v).bind f) Q:=by
  subst hv
  exact Ok.lv (by omega) (by omega) h
theorem Ok.set_uf {β:Type} {Q:β→Prop} {F:List Int} {v:Int} {k:Nat} {y:Int} (hv:v=k) (hk:k<F.length) {f:List Int→Option β} (h:Ok (f (F.set k y)) Q):Ok ((setAt F v y).bind f) Q:=by
  subst hv
  exact Ok.setAt (by omega) (by omega) (by rw[Int.toNat_natCast];exact h)

/-- The flow so far. -/
def Part (old out:List Int) (to i:Nat) (F:List Int):Prop:=F.length=3 * to+1∧uf F (3 * to)=old.length∧∀j,j<to→uf F (3 * j)=kp (old.take i) (out.take i) j∧uf F (3 * j+1)=kc (out.take i) j - kp (old.take i) (out.take i) j∧uf F (3 * j+2)=kc (out.take i) j
theorem Qg0 {old out:List Int} {to i:Nat} {F:List Int} (h:Part old out to i F) {a:Int} {j:Nat} (ha:old[i]?=some a) (hb:out[i]?=some (j:Int)) (hj:j<to) {F':List Int}
    (hl:F'.length=F.length) (hd:∀q,uf F' q=(if q=3 * j+2 then uf F q+1 else if a≠(j:Int)∧q=3 * j+1 then uf F q+1 else if a=(j:Int)∧q=3 * j then uf F q+1 else uf F q)):Part old out to (i+1) F':=by
  obtain⟨h1,h2,h3⟩:=h
  refine⟨hl.trans h1,?_,fun q hq=>?_⟩
  · rw[hd,if_neg (by omega),if_neg (by omega),if_neg (by omega)];exact h2
  · obtain⟨a1,a2,a3⟩:=h3 q hq
    rw[QfU q ha hb,QhX q hb,hd,hd,hd,a1,a2,a3]
    unfold one
    by_cases e:q=j
    · subst e
      by_cases e2:a=(q:Int)
      · rw[if_neg (by omega),if_neg (by omega),if_pos ⟨e2,rfl⟩,if_pos ⟨rfl,e2⟩,if_neg (by omega),if_neg (fun h=>h.1 e2),if_neg (by omega),if_pos rfl,if_pos rfl]
        omega
      · rw[if_neg (by omega),if_neg (by omega),if_neg (fun h=>e2 h.1),if_neg (fun h=>e2 h.2),if_neg (by omega),if_pos ⟨e2,rfl⟩,if_pos rfl,if_pos rfl]
        omega
    · rw[if_neg (by omega),if_neg (by omega),if_neg (by omega),if_neg (by omega),if_neg (by omega),if_neg (by omega),if_neg (by omega),if_neg (by omega),if_neg (by omega),if_neg (by omega)]
      omega

/-- The error of the arguments. -/
def errR (old:List Int) (to lo hi:Int):Int:=
  if (old.length:Int)>512∨to>62 then 4 else if to<0∨lo<0∨lo>hi then 1 else if (old.length:Int)<to * min lo 1000∨(old.length:Int)>to * min hi old.length then 14 else 0
def QF (to:Nat):List Int:=List.replicate to 0
theorem Qaq (to j:Nat):uf (QF to) j=0:=by
  unfold uf lv QF
  rw[List.getElem?_replicate]
  split<;>rfl
theorem QfV {old:List Int} {to lo hi:Int} (h:errR old to lo hi=0):∃t:Nat,to=t∧t≤62∧old.length≤512∧0≤lo∧lo≤hi∧(0<t→lo≤min hi old.length)∧to * lo≤old.length * 1+(if t=0 then to * lo else 0)∧(old.length:Int)≤to * min hi old.length:=by
  unfold errR at h
  split at h
  · cases h
  · split at h
    · cases h
    · split at h
      · cases h
      · rename_i h1 h2 h3
        obtain⟨t,rfl⟩:=Int.eq_ofNat_of_zero_le (show 0≤to by omega)
        have hlo:0<t→lo≤old.length:=fun ht=>by
          have:1 * min lo 1000≤(t:Int) * min lo 1000:=Int.mul_le_mul_of_nonneg_right (by omega) (by omega)
          omega
        refine⟨t,rfl,by omega,by omega,by omega,by omega,fun ht=>by have:=hlo ht;omega,?_,by omega⟩
        by_cases ht:t=0
        · subst ht;rw[if_pos rfl];omega
        · have:=hlo (by omega)
          have e:min lo 1000=lo:=by omega
          rw[e] at h3
          rw[if_neg ht];omega
theorem Qcd (y:Int):∀n:Nat,psum (fun _=>y) n=n * y
  | 0=>by show (0:Int)=((0:Nat):Int) * y;simp
  | n+1=>by
    show psum (fun _=>y) n+y=((n+1:Nat):Int) * y
    rw[Qcd y n];push_cast;rw[Int.add_mul];omega

theorem Qcr {old:List Int} {t:Nat} {lo hi:Int} (h:errR old t lo hi=0):Qa8 (QF t) lo (min hi old.length)∧QeB old t lo (min hi old.length)∧GOk lo (min hi old.length) old (QF t) (G lo (min hi old.length) old (QF t)).1 (G lo (min hi old.length) old (QF t)).2:=by
  obtain⟨t',ht',h1,h2,h3,h4,h5,h6,h7⟩:=QfV h
  have:t'=t:=by omega
  subst this
  have hz:(QF t').length=t':=List.length_replicate
  refine⟨⟨by rw[hz];exact h1,fun u hu=>?_⟩,⟨h2,h1,fun ht=>⟨h3,h5 ht,by omega⟩⟩,?_⟩
  · obtain⟨hn,rfl⟩:=List.mem_replicate.1 hu
    have:=h5 (by omega)
    omega
  · by_cases ht:t'=0
    · subst ht
      have hn:old=[]:=by
        have:(old.length:Int)≤0:=by simpa using h7
        cases old with
        | nil=>rfl
        | cons=>simp at this;omega
      subst hn
      refine⟨rfl,fun x hx=>(by cases hx),rfl,fun j hj=>absurd hj (by simp[QF]),?_,fun j hj=>absurd hj (by simp[QF])⟩
      rfl
    · have hlh:=h5 (by omega)
      rw[if_neg ht] at h6
      refine G_ok hlh old (QF t') (fun j hj=>by rw[Qaq];omega) ?_
      obtain⟨q,q1,q2⟩:=Qdt (fun _=>lo) (fun _=>min hi old.length) t' old.length (fun j _=>hlh) (by rw[Qcd];omega) (by rw[Qcd];exact h7)
      unfold allP
      rw[hz]
      refine Qcv hlh (fun j _=>by rw[Qaq];omega) (fun j _=>(Qae old j).1) (t:=q) ⟨fun j hj=>?_,q2⟩
      have:=q1 j hj
      rw[Qaq]
      unfold lowP
      omega

theorem QhD {l:List Int} (h:l.length≤68719476736):Qas l=some l:=by
  unfold Qas
  rw[rm_le (by simpa using h)]
  simp

theorem QcP {old:List Int} {to lo hi:Int} (hl:old.length≤1000000):
    Ok (Qax old to lo hi) (fun r=>(errR old to lo hi≠0∧r=([],⟨[],[]⟩,errR old to lo hi))∨
      (errR old to lo hi=0∧∃(t:Nat) (L:List Int),to=t∧r=((G lo (min hi old.length) old (QF t)).1,⟨QaG old (G lo (min hi old.length) old (QF t)).1 t,L⟩,0)∧Best ((t:Int)+2) (net old t lo (min hi old.length)) (QaG old (G lo (min hi old.length) old (QF t)).1 t) L)):=by
  unfold Qax
  have herr:∀{x:Int},errR old to lo hi=x→x≠0→Ok (some ((([]:List Int),(Qw.mk ([]:(List Int)) ([]:(List Int))),x))) (fun r=>(errR old to lo hi≠0∧r=([],⟨[],[]⟩,errR old to lo hi))∨
      (errR old to lo hi=0∧∃(t:Nat) (L:List Int),to=t∧r=((G lo (min hi old.length) old (QF t)).1,⟨QaG old (G lo (min hi old.length) old (QF t)).1 t,L⟩,0)∧Best ((t:Int)+2) (net old t lo (min hi old.length)) (QaG old (G lo (min hi old.length) old (QF t)).1 t) L)):=fun h hx=>
    Ok.mk (.inl ⟨by rw[h];exact hx,by rw[h]⟩)
  by_cases c1:(old.length:Int)>512∨to>62
  · rw[if_pos (by simpa using c1)]
    exact herr (by unfold errR;rw[if_pos c1]) (by decide)
  rw[if_neg (by simpa using c1)]
  by_cases c2:to<0∨lo<0∨lo>hi
  · rw[if_pos (by rcases c2 with h | h | h<;>simp[h])]
    exact herr (by unfold errR;rw[if_neg c1,if_pos c2]) (by decide)
  rw[if_neg (by simp only[Bool.or_eq_true,decide_eq_true_eq];omega)]
  obtain⟨t,rfl⟩:=Int.eq_ofNat_of_zero_le (show 0≤to by omega)
  have m1:(t:Int) * min lo 1000≤62 * 1000:=Int.mul_le_mul (by omega) (by omega) (by omega) (by omega)
  have m2:(t:Int) * min hi old.length≤62 * 512:=Int.mul_le_mul (by omega) (by omega) (by omega) (by omega)
  have m3:0≤(t:Int) * min lo 1000:=Int.mul_nonneg (by omega) (by omega)
  have m4:0≤(t:Int) * min hi old.length:=Int.mul_nonneg (by omega) (by omega)
  rw[QcO,QcO,w64 (n:=(t:Int) * min lo 1000) (by omega) (by omega),w64 (n:=(t:Int) * min hi old.length) (by omega) (by omega)]
  by_cases c3:(old.length:Int)<t * min lo 1000∨(old.length:Int)>t * min hi old.length
  · rw[if_pos (by simpa using c3)]
    exact herr (by unfold errR;rw[if_neg c1,if_neg c2,if_pos c3]) (by decide)
  rw[if_neg (by simpa using c3)]
  have h0:errR old t lo hi=0:=by unfold errR;rw[if_neg c1,if_neg c2,if_neg c3]
  obtain⟨hs,ha,hg⟩:=Qcr h0
  rw[QhD (by omega)]
  simp only[Option.bind_some]
  refine Ok.mk' (by omega) (by omega) ?_
  rw[Int.toNat_natCast]
  have hz:(QF t).length=t:=List.length_replicate
  have hgr:=Qfx hs (old:=old) (by omega)
  rw[hz] at hgr
  refine hgr.bind fun p hp=>?_
  subst hp
  dsimp only
  generalize hout:(G lo (min hi old.length) old (QF t)).1=out at *
  generalize (G lo (min hi old.length) old (QF t)).2=used' at *
  rw[Qgl (by omega) (by omega)]
  simp only[Option.bind_some]
  have ew:IntKind.i64.wrap ((t:Int)+2)=(t:Int)+2:=w64 (by omega) (by omega)
  rw[ew]
  obtain⟨pw,pc⟩:=Qeh (Qdj hz (fun j _=>Qaq t j) hg)
  refine (QhC (QgY ha) pw pc).bind fun r hr=>?_
  obtain⟨r1,r2⟩:=hr
  have hb:=QfA ha hz (fun j _=>Qaq t j) hg r2
  rw[r1,if_neg (by decide)]
  have hnl:=Qci (old:=old) (to:=t) (lo:=lo) (hi:=min hi old.length)
  rw[hnl]
  refine Ok.mk' (by omega) (by omega) ?_
  have hzl:(List.replicate (((3 * t+1:Nat):Int)).toNat (0:Int)).length=3 * t+1:=by rw[List.length_replicate];omega
  have hzu:∀i,uf (List.replicate (((3 * t+1:Nat):Int)).toNat (0:Int)) i=0:=fun i=>Qaq _ i
  generalize List.replicate (((3 * t+1:Nat):Int)).toNat (0:Int)=F0 at hzl hzu
  refine Ok.set_uf (k:=3 * t) (by rw[w64 (by omega) (by omega)];omega) (by omega) ?_
  have hm:∀x∈out,0≤x∧x<(t:Int):=fun x hx=>by have:=hg.mem x hx;rw[hz] at this;exact this
  have hol:=hg.len
  refine Ok.bind (P:=fun F=>Part old out t out.length F) (Ok.loop (fun g s=>∃i:Nat,s.1=i∧i+g=out.length∧Part old out t i s.2) out.length ⟨0,rfl,by omega,by dsimp only;rw[List.length_set];exact hzl,by dsimp only;rw[Qby (by omega),if_pos rfl],fun j hj=>by
    dsimp only
    rw[Qby (by omega),Qby (by omega),Qby (by omega),if_neg (by omega),if_neg (by omega),if_neg (by omega),hzu,hzu,hzu]
    exact⟨rfl,rfl,rfl⟩⟩ fun g s hs=>?_) fun F hF=>?_
  · obtain⟨i,h1,h2,h3⟩:=hs
    obtain⟨si,F⟩:=s
    dsimp only at h1 h3 ⊢
    subst h1
    refine Ok.ite (fun hi'=>?_) (fun hi'=>?_)
    · have hi':(i:Int)<out.length:=of_decide_eq_true hi'
      refine Ok.idx (by omega) hi' fun b hbm hbi=>?_
      have hbi:out[i]?=some b:=by simpa using hbi
      obtain⟨b0,b1⟩:=hm b hbm
      obtain⟨j,rfl⟩:=Int.eq_ofNat_of_zero_le b0
      have hj:j<t:=by omega
      refine Ok.idx (by omega) (by omega) fun a ham hai=>?_
      have hai:old[i]?=some a:=by simpa using hai
      have hF1:=h3.1
      obtain⟨q1,q2,q3⟩:=h3.2.2 j hj
      have k1:=Qej (old.take i) (out.take i) j
      have k2:=Qae (out.take i) j
      have k3:=List.length_take (i:=i) (l:=out)
      have w3:IntKind.i64.wrap ((3:Int) * (j:Int))=3 * (j:Int):=w64 (by omega) (by omega)
      rw[w3]
      refine Ok.bind (P:=fun F1=>F1.length=F.length∧∀q,uf F1 q=if a≠(j:Int)∧q=3 * j+1 then uf F q+1 else if a=(j:Int)∧q=3 * j then uf F q+1 else uf F q) (Ok.ite (fun hc=>?_) (fun hc=>?_)) fun F1 hF'=>?_
      · have hc:a≠(j:Int):=by simpa using hc
        refine Ok.at_uf (k:=3 * j+1) (by rw[w64 (by omega) (by omega)];omega) (by omega) ?_
        rw[w64 (n:=uf F (3 * j+1)+1) (by omega) (by omega)]
        refine Ok.set_uf (k:=3 * j+1) (by rw[w64 (by omega) (by omega)];omega) (by omega) (Ok.mk ⟨by rw[List.length_set],fun q=>?_⟩)
        rw[Qby (by omega)]
        by_cases e:q=3 * j+1
        · subst e;rw[if_pos rfl,if_pos ⟨hc,rfl⟩]
        · rw[if_neg e,if_neg (fun h=>e h.2),if_neg (fun h=>hc h.1)]
      · have hc:a=(j:Int):=by simpa using hc
        refine Ok.at_uf (k:=3 * j) (by omega) (by omega) ?_
        rw[w64 (n:=uf F (3 * j)+1) (by omega) (by omega)]
        refine Ok.set_uf (k:=3 * j) (by omega) (by omega) (Ok.mk ⟨by rw[List.length_set],fun q=>?_⟩)
        rw[Qby (by omega)]
        by_cases e:q=3 * j
        · subst e;rw[if_pos rfl,if_neg (fun h=>h.1 hc),if_pos ⟨hc,rfl⟩]
        · rw[if_neg e,if_neg (fun h=>h.1 hc),if_neg (fun h=>e h.2)]
      · obtain⟨f1,f2⟩:=hF'
        have e2:=f2 (3 * j+2)
        rw[if_neg (by omega),if_neg (by omega)] at e2
        refine Ok.at_uf (k:=3 * j+2) (by rw[w64 (by omega) (by omega)];omega) (by omega) ?_
        rw[w64 (n:=uf F1 (3 * j+2)+1) (by omega) (by omega)]
        refine Ok.set_uf (k:=3 * j+2) (by rw[w64 (by omega) (by omega)];omega) (by omega) (Ok.mk ⟨g - 1,by omega,i+1,by rw[w64 (by omega) (by omega)];rfl,by omega,Qg0 h3 hai hbi hj (by dsimp only;rw[List.length_set];exact f1) fun q=>?_⟩)
        dsimp only
        rw[Qby (by omega)]
        by_cases e:q=3 * j+2
        · subst e;rw[if_pos rfl,if_pos rfl,e2]
        · rw[if_neg e,if_neg e];exact f2 q
    · have hi':¬(i:Int)<out.length:=of_decide_eq_false hi'
      have:i=out.length:=by omega
      subst this
      exact Ok.mk h3
  · obtain⟨f1,f2,f3⟩:=hF
    rw[List.take_of_length_le (Nat.le_refl _),List.take_of_length_le (by omega)] at f3
    have hfe:=QhY f1 f3 f2
    subst hfe
    exact Ok.mk (.inr ⟨h0,t,r.1.Level,rfl,by rw[hout],by rw[hout];exact hb⟩)

end Go.Proofs.Ytbggdodepjhliaa

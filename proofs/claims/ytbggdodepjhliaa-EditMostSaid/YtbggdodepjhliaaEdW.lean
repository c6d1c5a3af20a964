/- Edit: the law EditMost. No condition. -/
import Derived.Test.YtbggdodepjhliaaEdV
namespace Go.Proofs.Ytbggdodepjhliaa
open Go.Sim

/-- The last digits of a number, the most significant one first. -/
def dig (t:Nat):Nat→Nat→List Int
  | 0,_=>[]
  | k+1,x=>((x / t ^ k % t:Nat):Int)::dig t k x
section
variable {t:Nat}
theorem QbT (x:Nat):∀k,(dig t k x).length=k
  | 0=>rfl
  | k+1=>by show (dig t k x).length+1=_;rw[QbT x k]
theorem Qdx (ht:0<t) (x:Nat):∀k,∀v∈dig t k x,0≤v∧v<(t:Int)
  | 0,v,h=>by cases h
  | k+1,v,h=>by
    rcases List.mem_cons.1 h with rfl | h
    · have:=Nat.mod_lt (x / t ^ k) ht
      omega
    · exact Qdx ht x k v h
theorem QfW (ht:0<t) (x:Nat):∀k c,dig t k (x+c * t ^ k)=dig t k x
  | 0,_=>rfl
  | k+1,c=>by
    have hp:0<t ^ k:=Nat.pow_pos ht
    have e:x+c * t ^ (k+1)=x+c * t * t ^ k:=by rw[Nat.pow_succ,Nat.mul_assoc,Nat.mul_comm t]
    show ((_:Nat):Int)::dig t k (x+c * t ^ (k+1))=_::_
    rw[e,QfW ht x k (c * t),Nat.add_mul_div_right _ _ hp,Nat.add_mul_mod_self_right]
theorem Qel (ht:0<t) {x y:Nat}:∀k,x % t ^ k<y % t ^ k→QcQ (dig t k x) (dig t k y)
  | 0,h=>by rw[Nat.pow_zero,Nat.mod_one,Nat.mod_one] at h;omega
  | k+1,h=>by
    rw[Nat.mod_pow_succ,Nat.mod_pow_succ] at h
    have hp:0<t ^ k:=Nat.pow_pos ht
    have hx:=Nat.mod_lt x hp
    have hy:=Nat.mod_lt y hp
    rcases Nat.lt_trichotomy (x / t ^ k % t) (y / t ^ k % t) with q | q | q
    · exact .now (by omega)
    · unfold dig
      rw[q] at h ⊢
      exact .later (Qel ht k (by omega))
    · exfalso
      have:t ^ k * (y / t ^ k % t+1)≤t ^ k * (x / t ^ k % t):=Nat.mul_le_mul_left _ q
      rw[Nat.mul_add] at this
      generalize x % t ^ k=A at *
      generalize y % t ^ k=B at *
      omega
theorem QfX (ht:0<t):∀m:List Int,(∀v∈m,0≤v∧v<(t:Int))→∃x,x<t ^ m.length∧dig t m.length x=m
  | [],_=>⟨0,by simp,rfl⟩
  | v::m,h=>by
    obtain⟨x,h1,h2⟩:=QfX ht m fun w hw=>h w (by simp[hw])
    obtain⟨c,rfl⟩:=Int.eq_ofNat_of_zero_le (h v (by simp)).1
    have hc:c<t:=by have:=(h _ (List.mem_cons_self)).2;omega
    have hp:0<t ^ m.length:=Nat.pow_pos ht
    refine⟨x+c * t ^ m.length,?_,?_⟩
    · have:(c+1) * t ^ m.length≤t * t ^ m.length:=Nat.mul_le_mul_right _ hc
      rw[Nat.add_mul] at this
      rw[List.length_cons,Nat.pow_succ,Nat.mul_comm _ t]
      omega
    · show ((_:Nat):Int)::dig t m.length _=_
      rw[QfW ht,h2,Nat.add_mul_div_right _ _ hp,Nat.div_eq_of_lt h1,Nat.zero_add,Nat.mod_eq_of_lt hc]
end

theorem QbU:∀l m:List Int,0≤QD l m∧QD l m≤m.length
  | [],m=>⟨Int.le_refl _,by show (0:Int)≤_;omega⟩
  | _::_,[]=>⟨Int.le_refl _,Int.le_refl _⟩
  | a::l,b::m=>by
    have:=QbU l m
    show 0≤(if b=a then 1 else 0)+QD l m∧(if b=a then 1 else 0)+QD l m≤((m.length+1:Nat):Int)
    split<;>omega
theorem Qem:∀l:List Int,QD l l=l.length
  | []=>rfl
  | a::l=>by
    show (if a=a then 1 else 0)+QD l l=((l.length+1:Nat):Int)
    rw[if_pos rfl,Qem l];omega
theorem Qen:∀{l m:List Int},m.length=l.length→(l.length:Int)≤QD l m→m=l
  | [],m,h,_=>List.length_eq_zero_iff.1 h
  | a::l,[],h,_=>by cases h
  | a::l,b::m,h,hk=>by
    have h':m.length=l.length:=by simpa using h
    have hk':((l.length+1:Nat):Int)≤(if b=a then 1 else 0)+QD l m:=hk
    have:=(QbU l m).2
    by_cases e:b=a
    · rw[if_pos e] at hk'
      rw[e,Qen h' (by omega)]
    · rw[if_neg e] at hk'
      omega

/-- A list is within the bounds. -/
def Fine (t:Nat) (lo hi:Int) (m:List Int):Prop:=∀j,j<t→lo≤kc m j∧kc m j≤hi
theorem Qcs {t:Nat} {lo hi:Int} {a m:List Int} (h:Fine t lo hi m) (hl:m.length=a.length) (hm:∀x∈m,0≤x∧x<(t:Int)):QbS (QF t).length lo (min hi a.length) (QF t) a m:=by
  have hz:(QF t).length=t:=List.length_replicate
  rw[hz]
  exact⟨hl,hm,fun j hj=>by
    have:=h j hj
    have:=(Qae m j).2
    rw[Qaq];omega⟩

theorem Qg2 {a:List Int} {t:Nat} {lo hi:Int} (h:errR a t lo hi=0):∃X,X<t ^ a.length∧dig t a.length X=(G lo (min hi a.length) a (QF t)).1∧Fine t lo hi (dig t a.length X)∧
    (∀x,x<X→Fine t lo hi (dig t a.length x)→QD a (dig t a.length x)<QD a (dig t a.length X))∧(∀x,x<t ^ a.length→Fine t lo hi (dig t a.length x)→QD a (dig t a.length x)≤QD a (dig t a.length X)):=by
  obtain⟨_,_,hg⟩:=Qcr h
  have hz:(QF t).length=t:=List.length_replicate
  obtain⟨t',ht',_,_,h0,hlh,hlt,_,hn⟩:=QfV h
  have:t'=t:=by omega
  subst this
  generalize hout:(G lo (min hi a.length) a (QF t')).1=out at *
  have hm:∀x∈out,0≤x∧x<(t':Int):=fun x hx=>by have:=hg.mem x hx;rw[hz] at this;exact this
  have hfine:Fine t' lo hi out:=fun j hj=>by
    have h1:=hg.bd j (by omega)
    rw[hg.use j (by omega),Qaq] at h1
    omega
  by_cases ht:t'=0
  · subst ht
    have ha:a=[]:=by
      have:(a.length:Int)≤0:=by simpa using hn
      cases a with
      | nil=>rfl
      | cons=>simp at this;omega
    subst ha
    have:out=[]:=List.length_eq_zero_iff.1 hg.len
    subst this
    exact⟨0,by simp,rfl,fun j hj=>absurd hj (by omega),fun x hx=>absurd hx (by omega),fun x _ _=>Int.le_refl _⟩
  · have ht:0<t':=by omega
    obtain⟨X,hX,hd⟩:=QfX ht out hm
    rw[hg.len] at hX hd
    have hu:∀j,j<(QF t').length→uf (QF t') j≤min hi a.length:=fun j _=>by rw[Qaq];omega
    have hall:0≤allP lo (min hi a.length) a (QF t'):=by rw[←hg.keep];exact (QbU _ _).1
    refine⟨X,hX,hd,by rw[hd];exact hfine,fun x hx hf=>?_,fun x hx hf=>?_⟩
    · have hb:QcQ (dig t' a.length x) (dig t' a.length X):=Qel ht _ (by rw[Nat.mod_eq_of_lt hX,Nat.mod_eq_of_lt (by omega)];exact hx)
      rw[hd] at hb ⊢
      rw[hg.keep]
      rw[←hout] at hb
      exact Qdl (hlt ht) a (QF t') hu hall _ (Qcs hf (QbT _ _) (Qdx ht _ _)) hb
    · rw[hd,hg.keep]
      exact QcX (Qcs hf (QbT _ _) (Qdx ht _ _))

theorem Qg3 {a:List Int} {t:Nat} {lo hi:Int} (h:errR a t lo hi=14) {x:Nat} (hx:x<t ^ a.length):¬Fine t lo hi (dig t a.length x):=fun hf=>by
  unfold errR at h
  split at h
  · cases h
  · split at h
    · cases h
    · split at h
      · rename_i h1 h2 h3
        by_cases ht:t=0
        · subst ht
          cases a with
          | nil=>simp at h3
          | cons b a=>simp at hx
        · have ht:0<t:=by omega
          have hs:=Qcc (Qdx ht x a.length)
          rw[QbT] at hs
          have l1:psum (fun _=>min lo 1000) t≤psum (kc (dig t a.length x)) t:=Qao fun j hj=>by have:=hf j hj;omega
          have l2:psum (kc (dig t a.length x)) t≤psum (fun _=>min hi a.length) t:=Qao fun j hj=>by
            have:=hf j hj
            have:=(Qae (dig t a.length x) j).2
            rw[QbT] at this
            omega
          rw[Qcd] at l1 l2
          omega
      · cases h

/-- The loop that writes a number's digits. -/
theorem Qg4 {a:List Int} {t x:Nat} (ht:0<t) (ht3:t≤3) (hn:a.length≤5) (hx:x<t ^ a.length) (hx2:x≤1000) {l0 u0:List Int} (hl:l0.length=a.length) (hu:u0.length=t) (hu0:∀j,uf u0 j=0) {i0:Int} (hi0:i0=a.length - 1)
    {body:Int×Int×Int×List Int×List Int→Option ((Int×Int×Int×List Int×List Int)⊕(Int×List Int×List Int))}
    (hb:body=fun s=>((if (decide (s.1≥(0:Int)))=true then (nz (t:Int)).bind fun _=>(setAt s.2.2.2.1 s.1 (Int.tmod s.2.1 (t:Int))).bind fun t80s=>(nz (t:Int)).bind fun _=>(idx t80s s.1).bind fun t87=>(idx s.2.2.2.2 t87).bind fun t89=>(setAt s.2.2.2.2 t87 (IntKind.i64.wrap (t89+(1:Int)))).bind fun t92s=>(idx t80s s.1).bind fun t95=>(idx a s.1).bind fun t99=>((if (t95==t99)=true then (some (IntKind.i64.wrap (s.2.2.1+(1:Int)))) else (some s.2.2.1))).bind fun (p245:Int)=>(some (.inl ((IntKind.i64.wrap (s.1 - (1:Int))),(IntKind.i64.wrap (Int.tdiv s.2.1 (t:Int))),p245,t80s,t92s))) else (some (.inr (s.2.2.1,s.2.2.2.1,s.2.2.2.2)))))):
    Ok (Ql body (i0,(x:Int),(0:Int),l0,u0)) (fun r=>r.1=QD a (dig t a.length x)∧r.2.1=dig t a.length x∧r.2.2.length=t∧∀j,j<t→uf r.2.2 j=kc (dig t a.length x) j):=by
  subst hb
  refine Ok.loop (fun g s=>s.1=g - 1∧∃k,g+k=a.length∧s.2.1=((x / t ^ k:Nat):Int)∧s.2.2.1=QD (a.drop g) (dig t k x)∧s.2.2.2.1.length=a.length∧s.2.2.2.1.drop g=dig t k x∧s.2.2.2.2.length=t∧∀j,j<t→uf s.2.2.2.2 j=kc (dig t k x) j) a.length ⟨hi0,0,by omega,by simp,by dsimp only;rw[List.drop_eq_nil_of_le (Nat.le_refl _)];rfl,hl,by dsimp only;rw[List.drop_eq_nil_of_le (by omega)];rfl,hu,fun j _=>by dsimp only;rw[hu0];rfl⟩ fun g s hs=>?_
  obtain⟨i,rest,keep,l,u⟩:=s
  obtain⟨h1,k,h2,h3,h4,h5,h6,h7,h8⟩:=hs
  dsimp only at h1 h3 h4 h5 h6 h7 h8 ⊢
  refine Ok.ite (fun hi=>?_) (fun hi=>?_)
  · have hi:i≥0:=of_decide_eq_true hi
    obtain⟨g,rfl⟩:∃q,g=q+1:=⟨g - 1,by omega⟩
    have hig:i=(g:Int):=by omega
    subst hig
    have hd:Int.tmod rest (t:Int)=((x / t ^ k % t:Nat):Int):=by rw[h3];rfl
    have hq:Int.tdiv rest (t:Int)=((x / t ^ (k+1):Nat):Int):=by
      rw[h3,Nat.pow_succ,←Nat.div_div_eq_div_mul];rfl
    have hlt:=Nat.mod_lt (x / t ^ k) ht
    have hle:x / t ^ (k+1)≤x:=Nat.div_le_self _ _
    rw[nz_of (by omega)]
    simp only[Option.bind_some]
    refine Ok.set_uf (k:=g) rfl (by omega) ?_
    rw[hd,hq]
    have hl':(l.set g ((x / t ^ k % t:Nat):Int)).length=a.length:=by rw[List.length_set];exact h5
    refine Ok.at_uf (k:=g) rfl (by omega) ?_
    rw[Qby (by omega),if_pos rfl]
    refine Ok.at_uf (k:=x / t ^ k % t) rfl (by omega) ?_
    refine Ok.set_uf (k:=x / t ^ k % t) rfl (by omega) ?_
    refine Ok.at_uf (k:=g) rfl (by omega) ?_
    rw[Qby (by omega),if_pos rfl]
    refine Ok.idx (by omega) (by omega) fun v hv hvg=>?_
    have hvg:a[g]?=some v:=by simpa using hvg
    have ea:a.drop g=v::a.drop (g+1):=by
      obtain⟨hg,hv⟩:=List.getElem?_eq_some_iff.1 hvg
      rw[List.drop_eq_getElem_cons hg,hv]
    have hk:=QbU (a.drop (g+1)) (dig t k x)
    rw[QbT] at hk
    have hku:=Qae (dig t k x) (x / t ^ k % t)
    rw[QbT] at hku
    have ek:QD (a.drop g) (dig t (k+1) x)=(if ((x / t ^ k % t:Nat):Int)=v then 1 else 0)+QD (a.drop (g+1)) (dig t k x):=by rw[ea];rfl
    refine Ok.bind (P:=fun q=>q=QD (a.drop g) (dig t (k+1) x)) (Ok.ite (fun hc=>?_) (fun hc=>?_)) fun q hq'=>?_
    · have hc:((x / t ^ k % t:Nat):Int)=v:=by simpa using hc
      refine Ok.mk ?_
      rw[ek,if_pos hc,h4,w64 (by omega) (by omega)];omega
    · have hc:¬((x / t ^ k % t:Nat):Int)=v:=by simpa using hc
      refine Ok.mk ?_
      rw[ek,if_neg hc,h4];omega
    · refine Ok.mk ⟨g,by omega,by dsimp only;rw[w64 (by omega) (by omega)],k+1,by omega,?_,hq',hl',?_,?_,?_⟩
      · dsimp only
        have hnn:=Int.natCast_nonneg (x / t ^ (k+1))
        rw[w64 (by omega) (by omega)]
      · dsimp only
        rw[List.drop_eq_getElem_cons (by omega),List.getElem_set_self,List.drop_set_of_lt (by omega),h6]
        rfl
      · dsimp only
        rw[List.length_set];exact h7
      · intro j hj
        dsimp only
        have e8:=h8 j hj
        have e9:=h8 _ hlt
        show _=kc (((x / t ^ k % t:Nat):Int)::dig t k x) j
        rw[Qby (by omega),Qap]
        unfold one
        by_cases e:j=x / t ^ k % t
        · rw[if_pos e,if_pos (by rw[e]),e9,w64 (by omega) (by omega),e]
        · rw[if_neg e,if_neg (by omega),e8];omega
  · have hi:¬i≥0:=of_decide_eq_false hi
    have hg:g=0:=by omega
    subst hg
    have hk:k=a.length:=by omega
    subst hk
    exact Ok.mk ⟨h4,h6,h7,h8⟩

/-- The loop that looks whether the bounds are kept. -/
theorem Qg5 {u:List Int} {t:Nat} {lo hi:Int} (hu:u.length=t) (ht3:t≤3) {body:Int×Bool→Option ((Int×Bool)⊕Bool)}
    (hb:body=fun s=>((if (decide (s.1<(t:Int)))=true then (opt (s.2==true) (idx u s.1) default).bind fun t113=>(opt ((s.2&&(decide (t113≥lo)))==true) (idx u s.1) default).bind fun t121=>(some (.inl ((IntKind.i64.wrap (s.1+(1:Int))),((s.2&&(decide (t113≥lo)))&&(decide (t121≤hi)))))) else (some (.inr s.2))))):
    Ok (Ql body ((0:Int),true)) (fun r=>r=true↔∀j,j<t→lo≤uf u j∧uf u j≤hi):=by
  subst hb
  refine Ok.loop (fun g s=>∃i:Nat,s.1=i∧i+g=t∧(s.2=true↔∀j,j<i→lo≤uf u j∧uf u j≤hi)) t ⟨0,rfl,by omega,fun _ j hj=>absurd hj (by omega),fun _=>rfl⟩ fun g s hs=>?_
  obtain⟨si,f⟩:=s
  obtain⟨i,h1,h2,h3⟩:=hs
  dsimp only at h1 h3 ⊢
  subst h1
  refine Ok.ite (fun hi'=>?_) (fun hi'=>?_)
  · have hi':(i:Int)<t:=of_decide_eq_true hi'
    refine Ok.opt (P:=fun r=>r=uf u i) (fun _=>?_) fun v1 hv1=>?_
    · obtain⟨r,hr,hq⟩:=Ok.at_uf (F:=u) (v:=(i:Int)) (k:=i) rfl (by omega) (f:=some) (Ok.mk (Q:=fun r=>r=uf u i) rfl)
      exact⟨r,by simpa using hr,hq⟩
    · refine Ok.opt (P:=fun r=>r=uf u i) (fun _=>?_) fun v2 hv2=>?_
      · obtain⟨r,hr,hq⟩:=Ok.at_uf (F:=u) (v:=(i:Int)) (k:=i) rfl (by omega) (f:=some) (Ok.mk (Q:=fun r=>r=uf u i) rfl)
        exact⟨r,by simpa using hr,hq⟩
      · refine Ok.mk ⟨g - 1,by omega,i+1,by dsimp only;rw[w64 (by omega) (by omega)];rfl,by omega,?_⟩
        dsimp only
        constructor
        · intro h j hj
          simp only[Bool.and_eq_true,decide_eq_true_eq] at h
          obtain⟨⟨ha,hb⟩,hc⟩:=h
          by_cases e:j=i
          · subst e
            rw[hv1 (by simpa using ha)] at hb
            rw[hv2 (by simp[ha,hv1 (by simpa using ha)];exact hb)] at hc
            omega
          · exact h3.1 ha j (by omega)
        · intro h
          have ha:f=true:=h3.2 fun j hj=>h j (by omega)
          have hq:=h i (by omega)
          have e1:=hv1 (by simpa using ha)
          have e2:=hv2 (by simp[ha,e1];omega)
          simp only[Bool.and_eq_true,decide_eq_true_eq]
          exact⟨⟨ha,by omega⟩,by omega⟩
  · have hi':¬(i:Int)<t:=of_decide_eq_false hi'
    have:i=t:=by omega
    subst this
    exact Ok.mk h3

theorem QeO {t n:Nat} (ht:t≤3) (hn:n≤5):t ^ n≤243:=by
  have h1:t ^ n≤3 ^ n:=Nat.pow_le_pow_left ht n
  have h2:3 ^ n≤3 ^ 5:=Nat.pow_le_pow_right (by omega) hn
  omega
theorem Qfp {a b:List Int} (h:a.length=b.length) (to lo hi:Int):errR a to lo hi=errR b to lo hi:=by unfold errR;rw[h]

theorem Qgm {a:List Int} {t:Nat} {lo hi:Int} (h:errR a t lo hi=0) {out:List Int} (ho:out=(G lo (min hi a.length) a (QF t)).1):(G lo (min hi out.length) out (QF t)).1=out:=by
  obtain⟨_,_,hg⟩:=Qcr h
  have hz:(QF t).length=t:=List.length_replicate
  rw[←ho] at hg
  have hl:=hg.len
  have h':errR out t lo hi=0:=by rw[Qfp hl];exact h
  obtain⟨_,_,hc⟩:=Qcr h'
  have hf:Fine t lo hi out:=fun j hj=>by
    have h1:=hg.bd j (by omega)
    rw[hg.use j (by omega),Qaq] at h1
    omega
  have hle:=QcX (Qcs (a:=out) hf rfl fun x hx=>by have:=hg.mem x hx;rw[hz] at this;exact this)
  rw[Qem,←hc.keep] at hle
  exact Qen hc.len hle

theorem QfB {l:List Int} (hl:∀x∈l,I64 x):QaM l=some true:=by
  have key:Ok (QaM l) (fun r=>r=true):=by
    unfold QaM
    refine (Qh0 hl).bind fun o ho=>?_
    obtain⟨o1,o2,o3,o4,o5,o6,o7⟩:=ho
    have i1:=QdN (o.1.length:Int) 5;have i2:=QdO (o.1.length:Int) 5;have i3:=Qev (a:=(o.1.length:Int)) (b:=5) (c:=0) (by omega) (by decide)
    refine Ok.sub (Int.le_refl _) i3 i1 fun a ha _=>?_
    have hn:a.length≤5:=by omega
    clear ha
    have e3:∃t:Nat,imin o.2.1 3=t∧t≤3:=by rw[QcO];exact⟨(min o.2.1 3).toNat,by omega,by omega⟩
    obtain⟨t,et,ht3⟩:=e3
    rw[et]
    generalize o.2.2.1=lo at *
    generalize o.2.2.2=hi at *
    have hpow:=QeO ht3 hn
    refine (QcP (by omega)).bind fun r hr=>?_
    refine Ok.bind (P:=fun p=>p=((t ^ a.length:Nat):Int)) (Ok.loop (fun g s=>∃i:Nat,s.1=i∧i+g=a.length∧s.2=((t ^ i:Nat):Int)) a.length ⟨0,rfl,by omega,rfl⟩ fun g s hs=>?_) fun p hp=>?_
    · obtain⟨si,al⟩:=s
      obtain⟨i,h1,h2,h3⟩:=hs
      dsimp only at h1 h3 ⊢
      subst h1
      refine Ok.ite (fun hi'=>?_) (fun hi'=>?_)
      · have hi':(i:Int)<a.length:=of_decide_eq_true hi'
        have:=QeO (t:=t) (n:=i+1) ht3 (by omega)
        have e:al * (t:Int)=((t ^ (i+1):Nat):Int):=by rw[h3,Nat.pow_succ];simp
        refine Ok.mk ⟨g - 1,by omega,i+1,by dsimp only;rw[w64 (by omega) (by omega)];rfl,by omega,?_⟩
        dsimp only
        rw[e,w64 (by omega) (by omega)]
      · have hi':¬(i:Int)<a.length:=of_decide_eq_false hi'
        have:i=a.length:=by omega
        subst this
        exact Ok.mk h3
    subst hp
    -- one list
    have one:∀(x:Nat),x<t ^ a.length→0<t∨a.length=0:=fun x hx=>by
      by_cases h:0<t
      · exact .inl h
      · have:t=0:=by omega
        subst this
        by_cases h0:a.length=0
        · exact .inr h0
        · rw[Nat.zero_pow (by omega)] at hx;omega
    -- the loop over all lists
    have all:∀(Inv:Nat→List Int→Int→Prop),Inv 0 [] (-1)→
        (∀x f b,x<t ^ a.length→Inv x f b→(Fine t lo hi (dig t a.length x)→QD a (dig t a.length x)>b→Inv (x+1) (dig t a.length x) (QD a (dig t a.length x)))∧(¬(Fine t lo hi (dig t a.length x)∧QD a (dig t a.length x)>b)→Inv (x+1) f b))→
        Ok (Ql (fun (s25:Int×(List Int)×Int)=>((if (decide (s25.1<((t ^ a.length:Nat):Int)))=true then (mk (a.length:Int) (0:Int)).bind fun t64=>(mk (t:Int) (0:Int)).bind fun t66=>(Ql (fun (s191:Int×Int×Int×List Int×List Int)=>((if (decide (s191.1≥(0:Int)))=true then (nz (t:Int)).bind fun _=>(setAt s191.2.2.2.1 s191.1 (Int.tmod s191.2.1 (t:Int))).bind fun t80s=>(nz (t:Int)).bind fun _=>(idx t80s s191.1).bind fun t87=>(idx s191.2.2.2.2 t87).bind fun t89=>(setAt s191.2.2.2.2 t87 (IntKind.i64.wrap (t89+(1:Int)))).bind fun t92s=>(idx t80s s191.1).bind fun t95=>(idx a s191.1).bind fun t99=>((if (t95==t99)=true then (some (IntKind.i64.wrap (s191.2.2.1+(1:Int)))) else (some s191.2.2.1))).bind fun (p245:Int)=>(some (.inl ((IntKind.i64.wrap (s191.1 - (1:Int))),(IntKind.i64.wrap (Int.tdiv s191.2.1 (t:Int))),p245,t80s,t92s))) else (some (.inr (s191.2.2.1,s191.2.2.2.1,s191.2.2.2.2)))):Option ((Int×Int×Int×List Int×List Int)⊕((Int×List Int×List Int))))) ((IntKind.i64.wrap ((a.length:Int) - (1:Int))),s25.1,(0:Int),t64,t66)).bind fun (p215:(Int×List Int×List Int))=>(Ql (fun (s219:Int×Bool)=>((if (decide (s219.1<(t:Int)))=true then (opt (s219.2==true) (idx p215.2.2 s219.1) default).bind fun t113=>(opt ((s219.2&&(decide (t113≥lo)))==true) (idx p215.2.2 s219.1) default).bind fun t121=>(some (.inl ((IntKind.i64.wrap (s219.1+(1:Int))),((s219.2&&(decide (t113≥lo)))&&(decide (t121≤hi)))))) else (some (.inr s219.2))):Option ((Int×Bool)⊕((Bool))))) ((0:Int),true)).bind fun (p225:(Bool))=>((if (p225&&(decide (p215.1>s25.2.2)))=true then (some (p215.2.1,p215.1)) else (some (s25.2.1,s25.2.2)))).bind fun (p227:(List Int)×Int)=>(some (.inl ((IntKind.i64.wrap (s25.1+(1:Int))),p227.1,p227.2))) else (some (.inr (s25.2.1,s25.2.2)))):Option ((Int×(List Int)×Int)⊕(((List Int)×Int))))) ((0:Int),([]:List Int),(-1:Int))) (fun r=>Inv (t ^ a.length) r.1 r.2):=fun Inv h0 hstep=>by
      refine Ok.loop (fun g s=>∃x:Nat,s.1=x∧x+g=t ^ a.length∧Inv x s.2.1 s.2.2) (t ^ a.length) ⟨0,rfl,by omega,h0⟩ fun g s hs=>?_
      obtain⟨sx,f,b⟩:=s
      obtain⟨x,h1,h2,h3⟩:=hs
      dsimp only at h1 h3 ⊢
      subst h1
      refine Ok.ite (fun hx=>?_) (fun hx=>?_)
      · have hx:(x:Int)<(t ^ a.length:Nat):=of_decide_eq_true hx
        have hx:x<t ^ a.length:=by omega
        obtain⟨s1,s2⟩:=hstep x f b hx h3
        refine Ok.mk' (by omega) (by omega) ?_
        refine Ok.mk' (by omega) (by omega) ?_
        rw[w64 (n:=(a.length:Int) - 1) (by omega) (by omega),Int.toNat_natCast,Int.toNat_natCast]
        refine Ok.bind (P:=fun r=>r.1=QD a (dig t a.length x)∧r.2.1=dig t a.length x∧r.2.2.length=t∧∀j,j<t→uf r.2.2 j=kc (dig t a.length x) j) ?_ fun p hp=>?_
        · rcases one x hx with ht | ha
          · exact Qg4 ht ht3 hn hx (by omega) List.length_replicate List.length_replicate (fun j=>Qaq t j) rfl rfl
          · have:a=[]:=List.length_eq_zero_iff.1 ha
            subst this
            rw[QdY]
            exact Ok.mk ⟨rfl,rfl,List.length_replicate,fun j _=>Qaq t j⟩
        · obtain⟨p1,p2,p3,p4⟩:=hp
          refine (Qg5 p3 ht3 rfl).bind fun q hq=>?_
          have hq:q=true↔Fine t lo hi (dig t a.length x):=hq.trans ⟨fun h j hj=>by rw[←p4 j hj];exact h j hj,fun h j hj=>by rw[p4 j hj];exact h j hj⟩
          rw[p1,p2]
          refine Ok.bind (P:=fun r=>Inv (x+1) r.1 r.2) (Ok.ite (fun hc=>?_) (fun hc=>?_)) fun r hr=>?_
          · simp only[Bool.and_eq_true,decide_eq_true_eq] at hc
            exact Ok.mk (s1 (hq.1 hc.1) hc.2)
          · refine Ok.mk (s2 fun h=>?_)
            rw[hq.2 h.1,decide_eq_true h.2] at hc
            cases hc
          · exact Ok.mk ⟨g - 1,by omega,x+1,by dsimp only;rw[w64 (by omega) (by omega)];rfl,by omega,hr⟩
      · have hx:¬(x:Int)<(t ^ a.length:Nat):=of_decide_eq_false hx
        have:x=t ^ a.length:=by omega
        subst this
        exact Ok.mk h3
    rcases hr with⟨z,hr⟩ | ⟨z,t',L,et',hr,hb⟩
    · have z14:errR a t lo hi=14:=by
        unfold errR at z ⊢
        split
        · omega
        · split
          · omega
          · split
            · rfl
            · rename_i h1 h2 h3
              rw[if_neg h1,if_neg h2,if_neg h3] at z
              exact absurd rfl z
      refine (all (fun _ _ b=>b=-1) rfl fun x f b hx hb=>⟨fun hf=>absurd hf (Qg3 z14 hx),fun _=>hb⟩).bind fun q hq=>?_
      rw[hq,if_pos (by decide),hr,z14,Qfo]
      exact Ok.mk rfl
    · have:t'=t:=by omega
      subst this
      obtain⟨X,hX,hd,hfX,k1,k2⟩:=Qg2 z
      refine (all (fun x f b=>if x≤X then b<QD a (dig t' a.length X) else f=dig t' a.length X∧b=QD a (dig t' a.length X)) (by
          rw[if_pos (by omega)]
          have:=(QbU a (dig t' a.length X)).1
          omega) fun x f b hx hb=>?_).bind fun q hq=>?_
      · by_cases e:x<X
        · rw[if_pos (by omega)] at hb
          refine⟨fun hf _=>?_,fun _=>?_⟩
          · rw[if_pos (by omega)];exact k1 x e hf
          · rw[if_pos (by omega)];exact hb
        · by_cases e':x=X
          · subst e'
            rw[if_pos (by omega)] at hb
            refine⟨fun _ _=>?_,fun h=>?_⟩
            · rw[if_neg (by omega)];exact⟨rfl,rfl⟩
            · exact absurd ⟨hfX,hb⟩ h
          · rw[if_neg (by omega)] at hb
            refine⟨fun hf hk=>?_,fun _=>?_⟩
            · have:=k2 x hx hf
              omega
            · rw[if_neg (by omega)];exact hb
      · rw[if_neg (by omega)] at hq
        obtain⟨q1,q2⟩:=hq
        have hkb:=(QbU a (dig t' a.length X)).1
        rw[q2,if_neg (by simpa using hkb),hr,q1,hd]
        dsimp only
        generalize hout:(G lo (min hi a.length) a (QF t')).1=out
        have hag:=Qgm z hout.symm
        have hol:out.length=a.length:=by rw[←hout];exact (Qcr z).2.2.len
        refine (QcP (by omega)).bind fun c hc=>?_
        have z2:errR out t' lo hi=0:=by rw[Qfp hol];exact z
        rcases hc with⟨w,_⟩ | ⟨_,t2,L2,et2,hc,_⟩
        · exact absurd z2 w
        · have:t2=t':=by omega
          subst this
          rw[hc,hag]
          dsimp only
          rw[Qcy (by omega),Qfo]
          exact Ok.mk rfl
  obtain⟨r,hr,rfl⟩:=key
  exact hr

end Go.Proofs.Ytbggdodepjhliaa

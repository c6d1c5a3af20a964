/- Edit: package flow accepts the certificate; the law EditFlow. No condition. -/
import Derived.Test.YtbggdodepjhliaaEdT
namespace Go.Proofs.Ytbggdodepjhliaa
open Go.Sim

theorem QfM {l:List Int} {f:Int→Option Bool} (hl:l.length≤1000000000) (h:∀e∈l,f e=some false):QZ l f=some (-1):=by
  have key:Ok (QZ l f) (fun r=>r=-1):=by
    unfold QZ
    refine Ok.bind (P:=fun r=>r=.inl ()) (Ok.loop (fun g s=>∃i:Nat,s=i∧i+g=l.length) l.length ⟨0,rfl,by omega⟩ fun g s hs=>?_) fun r hr=>by subst hr;exact Ok.mk rfl
    obtain⟨i,h1,h2⟩:=hs
    subst h1
    refine Ok.ite (fun hi=>?_) (fun _=>Ok.mk rfl)
    have hi:(i:Int)<l.length:=of_decide_eq_true hi
    refine Ok.idx (by omega) hi fun e he _=>?_
    rw[h e he]
    exact Ok.mk ⟨g - 1,by omega,i+1,by rw[w64 (by omega) (by omega)];rfl,by omega⟩
  obtain⟨r,hr,rfl⟩:=key
  exact hr
theorem QcX {l:List Int} {f:Int→Option Bool} (hl:l.length≤1000000000) (h:∀e∈l,f e=some false):QO l f=some false:=by
  unfold QO
  rw[QfM hl h];rfl

theorem Qhb {L:List Int} {x:Int} (h:x∈L):∃v:Int,0≤v∧v<L.length∧lv L v=x:=by
  obtain⟨k,hk,rfl⟩:=List.mem_iff_getElem.1 h
  refine⟨k,by omega,by omega,?_⟩
  unfold lv
  rw[Int.toNat_natCast,List.getElem?_eq_getElem hk];rfl

theorem QfA {n:Int} {l:List Qb} {f L:List Int} (h:Qdu n l) (hb:Best n l f L):Qbg n l ⟨f,L⟩=some 0:=by
  have h0:=h.n0;have h1:=h.n1;have h2:=h.len
  have hfl:=hb.within.1
  have hlen:=hb.len
  have key:Ok (Qbg n l ⟨f,L⟩) (fun r=>r=0):=by
    unfold Qbg
    rw[Qfu h]
    simp only[Option.bind_some]
    have e1:(((f.length:Int) !=(l.length:Int))||((L.length:Int) !=n))=false:=by rw[hfl];simp[hlen]
    rw[if_neg (by decide),e1,show ((false==false)=true) from rfl,Qc3,QcX (by omega) fun x hx=>by
      obtain⟨v,v0,v1,rfl⟩:=Qhb hx
      have:=hb.bd v v0 (by omega)
      unfold QbC
      rw[decide_eq_false (show ¬lv L v< -1099511627776 by omega),decide_eq_false (show ¬lv L v>1099511627776 by omega)];rfl]
    simp only[Option.bind_some]
    rw[if_neg (by decide)]
    refine Ok.bind (P:=fun r=>r=.inl ()) (Ok.loop (fun g s=>∃i:Nat,s=i∧i+g=l.length) l.length ⟨0,rfl,by omega⟩ fun g s hs=>?_) fun r hr=>?_
    · obtain⟨i,i1,i2⟩:=hs
      subst i1
      refine Ok.ite (fun hi=>?_) (fun _=>Ok.mk rfl)
      have hi:(i:Int)<l.length:=of_decide_eq_true hi
      have hkl:i<l.length:=by omega
      have hkf:i<f.length:=by rw[hfl];exact hkl
      have hke:l[i]?=some l[i]:=List.getElem?_eq_getElem hkl
      have hy:f[i]?=some f[i]:=List.getElem?_eq_getElem hkf
      have hE:=h.edges l[i] (List.getElem_mem hkl)
      obtain⟨y0,y1⟩:=hb.within.2 i _ _ hke hy
      obtain⟨s1,s2⟩:=hb.slack i _ _ hke hy
      have ee:idx l (i:Int)=some l[i]:=QcU hkl
      have ey:idx f (i:Int)=some f[i]:=QcU hkf
      rw[ee,ey]
      simp only[Option.bind_some]
      generalize l[i]=e at hE y0 y1 s1 s2
      generalize f[i]=y at y0 y1 s1 s2
      have t0:=hE.t0;have t1:=hE.t1;have f0:=hE.f0;have f1:=hE.f1;have c0:=hE.c0;have c1:=hE.c1
      have bT:=hb.bd e.To t0 t1
      have bF:=hb.bd e.From f0 f1
      refine Ok.lv f0 (by omega) (Ok.lv t0 (by omega) ?_)
      rw[w64 (n:=e.Cost+lv L e.From) (by omega) (by omega),w64 (by omega) (by omega)]
      have q3:(decide (e.Cost+lv L e.From - lv L e.To<0)&&decide (y<e.Hi))=false:=by
        by_cases q:y<e.Hi
        · have:=s1 q
          rw[decide_eq_false (show ¬e.Cost+lv L e.From - lv L e.To<0 by omega),Bool.false_and]
        · rw[decide_eq_false q,Bool.and_false]
      have q4:(decide (e.Cost+lv L e.From - lv L e.To>0)&&decide (y>e.Lo))=false:=by
        by_cases q:e.Lo<y
        · have:=s2 q
          rw[decide_eq_false (show ¬e.Cost+lv L e.From - lv L e.To>0 by omega),Bool.false_and]
        · rw[decide_eq_false (show ¬y>e.Lo from q),Bool.and_false]
      rw[q3,q4,decide_eq_false (show ¬y<e.Lo by omega),decide_eq_false (show ¬y>e.Hi by omega),if_neg (by decide)]
      exact Ok.mk ⟨g - 1,by omega,i+1,by rw[w64 (by omega) (by omega)];rfl,by omega⟩
    · subst hr
      dsimp only
      refine (QeN (x:=⟨n,l,f,[]⟩) ⟨h0,h1,h2,h.edges,hb.within,fun a ha=>(by cases ha),by simp⟩).bind fun E hE=>?_
      obtain⟨E1,E2⟩:=hE
      dsimp only at E1 E2
      rw[QcX (by omega) fun x hx=>by
        obtain⟨v,v0,v1,rfl⟩:=Qhb hx
        have:=(E2 v v0 (by omega)).1
        rw[hb.circ v v0 (by omega)] at this
        unfold QbD
        rw[this];rfl]
      exact Ok.mk rfl
  obtain⟨r,hr,rfl⟩:=key
  exact hr

theorem QeR:∀(l m:List Int) (i:Nat),Qar (l.take i) (m.take i)≤i
  | [],_,i=>by rw[List.take_nil];show (0:Int)≤i;omega
  | _::_,[],i=>by
    cases i with
    | zero=>exact Int.le_refl _
    | succ i=>rw[List.take_nil];show (0:Int)≤((i+1:Nat):Int);omega
  | a::l,b::m,0=>Int.le_refl _
  | a::l,b::m,i+1=>by
    have:=QeR l m i
    show (if b=a then 1 else 0)+Qar (l.take i) (m.take i)≤((i+1:Nat):Int)
    push_cast
    split<;>omega
theorem Qeq:∀{l m:List Int} {k:Nat} {a b:Int},l[k]?=some a→m[k]?=some b→Qar (l.take (k+1)) (m.take (k+1))=Qar (l.take k) (m.take k)+(if b=a then 1 else 0)
  | [],_,_,_,_,h,_=>by simp at h
  | _::_,[],_,_,_,_,h=>by simp at h
  | x::l,y::m,0,a,b,h1,h2=>by
    simp at h1 h2
    subst h1;subst h2
    simp[Qar]
  | x::l,y::m,k+1,a,b,h1,h2=>by
    simp only[List.getElem?_cons_succ] at h1 h2
    have:=Qeq h1 h2
    show (if y=x then 1 else 0)+Qar (l.take (k+1)) (m.take (k+1))=(if y=x then 1 else 0)+Qar (l.take k) (m.take k)+_
    rw[this];omega
theorem Qd0:∀(l m:List Int),0≤Qar l m∧Qar l m≤l.length
  | [],_=>by show (0:Int)≤0∧(0:Int)≤0;exact⟨Int.le_refl _,Int.le_refl _⟩
  | _::_,[]=>by show (0:Int)≤0∧(0:Int)≤_;exact⟨Int.le_refl _,by omega⟩
  | a::l,b::m=>by
    have:=Qd0 l m
    show 0≤(if b=a then 1 else 0)+Qar l m∧(if b=a then 1 else 0)+Qar l m≤_
    simp only[List.length_cons]
    push_cast
    split<;>omega

theorem QfN {l:List Int} (hl:∀x∈l,I64 x):QaO l=some true:=by
  have key:Ok (QaO l) (fun r=>r=true):=by
    unfold QaO
    refine (Qia hl).bind fun o ho=>?_
    obtain⟨old,to,lo,hi⟩:=o
    dsimp only at ho ⊢
    obtain⟨o1,o2,o3,o4,o5,o6,o7⟩:=ho
    refine (QdH (by omega)).bind fun r hr=>?_
    rcases hr with⟨z,hr⟩ | ⟨z,t,L,et,hr,hb⟩
    · have z14:errR old to lo hi=14:=by
        unfold errR at z ⊢
        rw[if_neg (by omega),if_neg (by omega)] at z ⊢
        split at z
        · rename_i q;rw[if_pos q]
        · exact absurd rfl z
      rw[z14] at hr
      subst hr
      dsimp only
      rw[if_pos (by decide),show ((14:Int)==14)=true from rfl,Qfz]
      exact Ok.mk rfl
    · subst et
      obtain⟨_,ha,hg⟩:=Qfy z
      subst hr
      generalize (G lo (min hi old.length) old (Qae t)).1=out at *
      generalize (G lo (min hi old.length) old (Qae t)).2=used' at *
      dsimp only
      have hp:=Qeo hb.within hb.circ
      have hL:=Qfv ha
      have hfl:=Qdw (old:=old) (out:=out) (to:=t)
      have hnl:=Qb0 (old:=old) (to:=t) (lo:=lo) (hi:=min hi old.length)
      have hz:(Qae t).length=t:=List.length_replicate
      have hm:∀x∈out,0≤x∧x<(t:Int):=fun x hx=>by have:=hg.mem x hx;rw[hz] at this;exact this
      rw[if_neg (by decide),QeY (by omega) (by omega)]
      simp only[Option.bind_some]
      rw[List.length_map,hfl,hnl,hg.len,if_neg (by simp)]
      have hcost:lin (·.Cost) (net old t lo (min hi old.length)) (Qau old out t)=old.length - Qar old out:=by
        rw[Qc7 hp,←QeE (l:=old) hm]
        congr 1
        exact QD fun j hj=>(Qc8.1 j hj).1
      generalize hN:net old t lo (min hi old.length)=N at *
      generalize hF:Qau old out t=F at *
      refine Ok.bind (P:=fun p=>p=(lin (·.Cost) N F,N)) (Ok.loop (fun g s=>∃i:Nat,s.1=i∧i+g=3 * t+1∧s.2.1=lin (·.Cost) (N.take i) (F.take i)∧(-1000000 * (i:Int)≤s.2.1∧s.2.1≤1000000 * i)∧s.2.2=N.take i) (3 * t+1) ⟨0,rfl,by omega,rfl,⟨Int.le_refl _,Int.le_refl _⟩,rfl⟩ fun g s hs=>?_) fun p hp'=>?_
      · obtain⟨i,i1,i2,i3,i4,i5⟩:=hs
        obtain⟨si,cost,es⟩:=s
        dsimp only at i1 i3 i4 i5 ⊢
        subst i1
        refine Ok.ite (fun hi'=>?_) (fun hi'=>?_)
        · have hi':(i:Int)<((3 * t+1:Nat):Int):=of_decide_eq_true hi'
          have hiN:i<N.length:=by omega
          have hiF:i<F.length:=by omega
          have hN':N[i]?=some N[i]:=List.getElem?_eq_getElem hiN
          have hF':F[i]?=some F[i]:=List.getElem?_eq_getElem hiF
          have hE:=hL.edges N[i] (List.getElem_mem hiN)
          obtain⟨y0,y1⟩:=hb.within.2 i _ _ hN' hF'
          have etk:N.take (i+1)=N.take i++[N[i]]:=List.take_succ_eq_append_getElem hiN
          rw[cv_at hN',QcU hiF]
          simp only[Option.bind_some]
          have hsn:=QbI (·.Cost) hN' hF'
          generalize N[i]=e at *
          generalize F[i]=y at *
          have c0:=hE.c0;have c1:=hE.c1;have l0:=hE.lo;have h1:=hE.hi
          have m1:e.Cost * y≤1000 * y:=Int.mul_le_mul_of_nonneg_right c1 (by omega)
          have m2:-1000 * y≤e.Cost * y:=Int.mul_le_mul_of_nonneg_right c0 (by omega)
          have m3:(cv e).Cost * y=e.Cost * y:=rfl
          refine Ok.rm (by rw[i5];simp;omega) (Ok.mk ⟨g - 1,by omega,i+1,by rw[w64 (by omega) (by omega)];rfl,by omega,?_,?_,?_⟩)
          · dsimp only
            rw[m3,w64 (n:=e.Cost * y) (by omega) (by omega),w64 (n:=cost+_) (by omega) (by omega),hsn,i3]
          · dsimp only
            rw[m3,w64 (n:=e.Cost * y) (by omega) (by omega),w64 (n:=cost+_) (by omega) (by omega)]
            push_cast
            omega
          · dsimp only
            rw[etk,i5]
            rfl
        · have hi':¬(i:Int)<((3 * t+1:Nat):Int):=of_decide_eq_false hi'
          have:i=3 * t+1:=by omega
          subst this
          refine Ok.mk ?_
          dsimp only
          rw[i3,i5,List.take_of_length_le (by omega),List.take_of_length_le (by omega)]
      · subst hp'
        dsimp only
        have kb:=Qd0 old out
        refine Ok.bind (P:=fun p=>p=0) (Ok.loop (fun g s=>∃i:Nat,s.1=i∧i+g=old.length∧s.2=lin (·.Cost) N F - (i - Qar (old.take i) (out.take i))) old.length ⟨0,rfl,by omega,by show _=_ - (0 - 0);simp⟩ fun g s hs=>?_) fun p hp'=>?_
        · obtain⟨i,i1,i2,i3⟩:=hs
          obtain⟨si,c⟩:=s
          dsimp only at i1 i3 ⊢
          subst i1
          have kb2:=Qd0 (old.take i) (out.take i)
          have kb3:=QeR old out i
          refine Ok.ite (fun hi'=>?_) (fun hi'=>?_)
          · have hi':(i:Int)<old.length:=of_decide_eq_true hi'
            have hil:i<old.length:=by omega
            have hio:i<out.length:=by have:=hg.len;omega
            rw[QcU hil,QcU hio]
            simp only[Option.bind_some]
            have hsn:=Qeq (List.getElem?_eq_getElem hil) (List.getElem?_eq_getElem hio)
            refine Ok.bind (P:=fun p=>p=lin (·.Cost) N F - (((i+1:Nat):Int) - Qar (old.take (i+1)) (out.take (i+1)))) (Ok.ite (fun hc=>Ok.mk ?_) (fun hc=>Ok.mk ?_)) fun p hp'=>Ok.mk ⟨g - 1,by omega,i+1,by rw[w64 (by omega) (by omega)];rfl,by omega,hp'⟩
            · have hc:¬out[i]=old[i]:=by simpa using fun h=>(bne_iff_ne.1 hc) h.symm
              rw[if_neg hc] at hsn
              rw[w64 (by omega) (by omega)]
              push_cast
              omega
            · have hc:out[i]=old[i]:=by simpa using (by simpa using hc:old[i]=out[i]).symm
              rw[if_pos hc] at hsn
              push_cast
              omega
          · have hi':¬(i:Int)<old.length:=of_decide_eq_false hi'
            have:i=old.length:=by omega
            subst this
            refine Ok.mk ?_
            rw[List.take_of_length_le (Nat.le_refl _),List.take_of_length_le (by have:=hg.len;omega)] at i3
            dsimp only
            omega
        · subst hp'
          have ew:IntKind.i64.wrap ((t:Int)+2)=(t:Int)+2:=w64 (by omega) (by omega)
          simp only[show ((0:Int)==0)=true from rfl,show (true==true)=true from rfl,Qc3,ew,QfA hL hb,Option.bind_some,Bool.true_and,Qfz]
          exact Ok.mk rfl
  obtain⟨r,hr,rfl⟩:=key
  exact hr

end Go.Proofs.Ytbggdodepjhliaa

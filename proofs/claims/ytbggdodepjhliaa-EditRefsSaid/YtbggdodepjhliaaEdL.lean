/- Edit: the loops of the greedy choice. No condition. -/
import Derived.Test.YtbggdodepjhliaaEdK
namespace Go.Proofs.Ytbggdodepjhliaa
open Go.Sim

theorem Qf3 {lo hi:Int} {c:Int} {rest used:List Int}:G lo hi (c::rest) used=(match seek (fit lo hi rest c used) 0 used.length with
    | some j=>((j:Int)::(G lo hi rest (more used j)).1,(G lo hi rest (more used j)).2)
    | none=>G lo hi rest used):=rfl
theorem Qf4 {lo hi:Int} {c:Int} {rest used:List Int} {j:Nat} (h:fit lo hi rest c used j=true):uf used j<hi:=by
  unfold fit at h
  simp only[Bool.and_eq_true,decide_eq_true_eq] at h
  exact h.1
theorem QgB {p:Nat→Bool} {j g:Nat} (hj:p j=true):seek p j (g+1)=some j:=if_pos hj
theorem Qfm {p:Nat→Bool} {j g:Nat} (hj:p j=false):seek p j (g+1)=seek p (j+1) g:=if_neg (by rw[hj];decide)

theorem Qgf {lo hi:Int} {old used0:List Int} (h:QaQ used0 lo hi) (ho:old.length≤600):
    Ok (Qu (fun (s19:Int×List Int×List Int×(List Int)×Int×Int)=>((if (decide (s19.1<(old.length:Int)))=true then (idx old s19.1).bind fun t84=>(Q4 (QD.mk s19.2.2.2.1 s19.2.2.1 s19.2.2.2.2.1 s19.2.2.2.2.2) s19.1).bind fun t88=>(Qu (fun (s163:Int×List Int×(List Int)×Int×Int)=>((if (decide (s163.1<(used0.length:Int)))=true then (Qa9 s163.1 (QD.mk s163.2.2.1 s163.2.1 s163.2.2.2.1 s163.2.2.2.2) s19.1 t84 t88).bind fun t96=>(if t96.1=true then (rm (s19.2.1.length+[s163.1].length)).bind fun _=>(some (.inr ((t96.2).old,(t96.2).lo,(t96.2).hi,(t96.2).used,(s19.2.1++[s163.1])))) else (some (.inl ((IntKind.i64.wrap (s163.1+(1:Int))),(t96.2).used,(t96.2).old,(t96.2).lo,(t96.2).hi)))) else (some (.inr (s163.2.2.1,s163.2.2.2.1,s163.2.2.2.2,s163.2.1,s19.2.1)))):Option ((Int×List Int×(List Int)×Int×Int)⊕(((List Int)×Int×Int×List Int×List Int))))) ((0:Int),s19.2.2.1,s19.2.2.2.1,s19.2.2.2.2.1,s19.2.2.2.2.2)).bind fun (p181:((List Int)×Int×Int×List Int×List Int))=>(some (.inl ((IntKind.i64.wrap (s19.1+(1:Int))),p181.2.2.2.2,p181.2.2.2.1,p181.1,p181.2.1,p181.2.2.1))) else (some (.inr (s19.2.1,s19.2.2.1,s19.2.2.2.1,s19.2.2.2.2.1,s19.2.2.2.2.2)))):Option ((Int×List Int×List Int×(List Int)×Int×Int)⊕((List Int×List Int×(List Int)×Int×Int))))) ((0:Int),([]:List Int),used0,old,lo,hi)) (fun p=>p=((G lo hi old used0).1,(G lo hi old used0).2,old,lo,hi)):=by
  refine Ok.loop (fun g s=>∃i:Nat,s.1=i∧i+g=old.length∧s.2.1.length≤i∧QaQ s.2.2.1 lo hi∧s.2.2.1.length=used0.length∧s.2.2.2.1=old∧s.2.2.2.2.1=lo∧s.2.2.2.2.2=hi∧s.2.1++(G lo hi (old.drop i) s.2.2.1).1=(G lo hi old used0).1∧(G lo hi (old.drop i) s.2.2.1).2=(G lo hi old used0).2) old.length ⟨0,rfl,by omega,Nat.le_refl _,h,rfl,rfl,rfl,rfl,rfl,rfl⟩ fun g s hs=>?_
  obtain⟨i,h1,h2,h3,h4,h5,h6,h7,h8,h9,h10⟩:=hs
  obtain⟨si,out,used,so,sl,sh⟩:=s
  dsimp only at h1 h3 h4 h5 h6 h7 h8 h9 h10 ⊢
  subst h1;subst h6;subst h7;subst h8
  refine Ok.ite (fun hi'=>?_) (fun hi'=>?_)
  · have hi':(i:Int)<so.length:=of_decide_eq_true hi'
    refine Ok.idx (by omega) hi' fun c hc hic=>?_
    have hil:i<so.length:=by omega
    have hd:so.drop i=c::so.drop (i+1):=by
      rw[List.drop_eq_getElem_cons hil]
      have hic:so[i]?=some c:=by simpa using hic
      rw[List.getElem?_eq_getElem hil] at hic
      rw[Option.some.inj hic]
    rw[QgA h4 ho (by omega),hd]
    simp only[Option.bind_some]
    have ea:QL sl sh used.length (kc (c::so.drop (i+1))) (uf used) ((c::so.drop (i+1)).length:Nat)=allP sl sh (c::so.drop (i+1)) used:=rfl
    rw[ea]
    rw[hd,Qf3] at h9 h10
    have hlen:=h4.len
    refine Ok.bind (P:=fun p=>p.1=so∧p.2.1=sl∧p.2.2.1=sh∧(match seek (fit sl sh (so.drop (i+1)) c used) 0 used.length with | some j=>p.2.2.2.1=more used j∧p.2.2.2.2=out++[(j:Int)] | none=>p.2.2.2.1=used∧p.2.2.2.2=out)) (Ok.loop (fun g s=>∃j:Nat,s.1=j∧j+g=used.length∧s.2.1=used∧s.2.2.1=so∧s.2.2.2.1=sl∧s.2.2.2.2=sh∧seek (fit sl sh (so.drop (i+1)) c used) 0 used.length=seek (fit sl sh (so.drop (i+1)) c used) j g) used.length ⟨0,rfl,by omega,rfl,rfl,rfl,rfl,rfl⟩ fun g' s hs=>?_) fun p hp=>?_
    · obtain⟨j,j1,j2,j3,j4,j5,j6,j7⟩:=hs
      obtain⟨sj,u,so',sl',sh'⟩:=s
      dsimp only at j1 j3 j4 j5 j6 ⊢
      subst j1;subst j3;subst j4;subst j5;subst j6
      refine Ok.ite (fun hj=>?_) (fun hj=>?_)
      · have hj:(j:Int)<used0.length:=of_decide_eq_true hj
        cases g' with
        | zero=>omega
        | succ g'=>
          rw[Qiq h4 ho hd (by omega)]
          simp only[Option.bind_some]
          refine Ok.ite (fun hf=>?_) (fun hf=>?_)
          · rw[if_pos hf]
            refine Ok.rm (by simp;omega) (Ok.mk ⟨rfl,rfl,rfl,?_⟩)
            rw[j7,QgB hf]
            exact⟨rfl,rfl⟩
          · rw[hf,if_neg (by decide)]
            exact Ok.mk ⟨g',by omega,j+1,by rw[w64 (by omega) (by omega)];rfl,by omega,rfl,rfl,rfl,rfl,by rw[j7,Qfm hf]⟩
      · have hj:¬(j:Int)<used0.length:=of_decide_eq_false hj
        have:g'=0:=by omega
        subst this
        refine Ok.mk ⟨rfl,rfl,rfl,?_⟩
        rw[j7]
        exact⟨rfl,rfl⟩
    · obtain⟨p1,p2,p3,p4⟩:=hp
      obtain⟨a1,a2,a3,a4,a5⟩:=p
      dsimp only at p1 p2 p3 p4 ⊢
      subst p1;subst p2;subst p3
      cases hsk:seek (fit a2 a3 (a1.drop (i+1)) c used) 0 used.length with
      | none=>
        rw[hsk] at p4 h9 h10
        obtain⟨p4,p5⟩:=p4
        subst p4;subst p5
        exact Ok.mk ⟨g - 1,by omega,i+1,by rw[w64 (by omega) (by omega)];rfl,by omega,by dsimp only;omega,h4,h5,rfl,rfl,rfl,h9,h10⟩
      | some j=>
        rw[hsk] at p4 h9 h10
        obtain⟨p4,p5⟩:=p4
        subst p4;subst p5
        obtain⟨_,q1,q2⟩:=QcU hsk
        refine Ok.mk ⟨g - 1,by omega,i+1,by rw[w64 (by omega) (by omega)];rfl,by omega,by simp;omega,QbJ h4 (by omega) (Qf4 q2),by dsimp only;rw[Qag];exact h5,rfl,rfl,rfl,?_,h10⟩
        rw[←h9];simp
  · have hi':¬(i:Int)<so.length:=of_decide_eq_false hi'
    have:i=so.length:=by omega
    subst this
    rw[List.drop_length] at h9 h10
    refine Ok.mk ?_
    have h9:out++[]=(G sl sh so used0).1:=h9
    have h10:used=(G sl sh so used0).2:=h10
    rw[List.append_nil] at h9
    rw[h9,h10]

theorem QgV {lo hi:Int} {old used0:List Int} (h:QaQ used0 lo hi) (ho:old.length≤600):
    Ok (Qu (fun (s18:Int×List Int×List Int)=>((if (decide (s18.1<(old.length:Int)))=true then (sub old s18.1 (old.length:Int)).bind fun t63=>(Qaw t63 s18.2.2 lo hi).bind fun t67=>(Qu (fun (s256:Int×List Int)=>((if (decide (s256.1<(used0.length:Int)))=true then (jn (fun (p332:List Int)=>(some (.inl ((IntKind.i64.wrap (s256.1+(1:Int))),p332)))) fun j347=>(idx s256.2 s256.1).bind fun t75=>(if (decide (t75≥hi))=true then (j347 s256.2) else (idx s256.2 s256.1).bind fun t81=>(setAt s256.2 s256.1 (IntKind.i64.wrap (t81+(1:Int)))).bind fun t84s=>(sub old (IntKind.i64.wrap (s18.1+(1:Int))) (old.length:Int)).bind fun t88=>(Qaw t88 t84s lo hi).bind fun t92=>(idx old s18.1).bind fun t95=>((if ((t95==s256.1)&&(decide (t92≥(0:Int))))=true then (some (IntKind.i64.wrap (t92+(1:Int)))) else (some t92))).bind fun (p354:Int)=>(if (p354==t67)=true then (rm (s18.2.1.length+[s256.1].length)).bind fun _=>(some (.inr (t84s,(s18.2.1++[s256.1])))) else (idx t84s s256.1).bind fun t114=>(setAt t84s s256.1 (IntKind.i64.wrap (t114 - (1:Int)))).bind fun t117s=>(j347 t117s)))) else (some (.inr (s256.2,s18.2.1)))):Option ((Int×List Int)⊕((List Int×List Int))))) ((0:Int),s18.2.2)).bind fun (p326:(List Int×List Int))=>(some (.inl ((IntKind.i64.wrap (s18.1+(1:Int))),p326.2,p326.1))) else (some (.inr s18.2.1))):Option ((Int×List Int×List Int)⊕((List Int))))) ((0:Int),([]:List Int),used0)) (fun p=>p=(G lo hi old used0).1):=by
  refine Ok.loop (fun g s=>∃i:Nat,s.1=i∧i+g=old.length∧s.2.1.length≤i∧QaQ s.2.2 lo hi∧s.2.2.length=used0.length∧s.2.1++(G lo hi (old.drop i) s.2.2).1=(G lo hi old used0).1) old.length ⟨0,rfl,by omega,Nat.le_refl _,h,rfl,rfl⟩ fun g s hs=>?_
  obtain⟨i,h1,h2,h3,h4,h5,h9⟩:=hs
  obtain⟨si,out,used⟩:=s
  dsimp only at h1 h3 h4 h5 h9 ⊢
  subst h1
  refine Ok.ite (fun hi'=>?_) (fun hi'=>?_)
  · have hi':(i:Int)<old.length:=of_decide_eq_true hi'
    have hil:i<old.length:=by omega
    have hd:old.drop i=old[i]::old.drop (i+1):=List.drop_eq_getElem_cons hil
    have esub:∀q:Nat,q≤old.length→sub old (q:Int) (old.length:Int)=some (old.drop q):=fun q hq=>by
      unfold sub
      rw[if_pos ⟨by omega,by omega,Int.le_refl _⟩]
      simp only[Int.toNat_natCast]
      exact congrArg some (List.take_of_length_le (by rw[List.length_drop];omega))
    have hl1:(old.drop (i+1)).length≤600:=by rw[List.length_drop];omega
    have hl0:(old[i]::old.drop (i+1)).length≤600:=by rw[←hd,List.length_drop];omega
    rw[esub i (by omega),hd]
    simp only[Option.bind_some]
    rw[QeO h4 hl0]
    simp only[Option.bind_some]
    have ea:QL lo hi used.length (kc (old[i]::old.drop (i+1))) (uf used) ((old[i]::old.drop (i+1)).length:Nat)=allP lo hi (old[i]::old.drop (i+1)) used:=rfl
    rw[ea]
    rw[hd,Qf3] at h9
    have hlen:=h4.len
    refine Ok.bind (P:=fun p=>(match seek (fit lo hi (old.drop (i+1)) old[i] used) 0 used.length with | some j=>p.1=more used j∧p.2=out++[(j:Int)] | none=>p.1=used∧p.2=out)) (Ok.loop (fun g s=>∃j:Nat,s.1=j∧j+g=used.length∧s.2=used∧seek (fit lo hi (old.drop (i+1)) old[i] used) 0 used.length=seek (fit lo hi (old.drop (i+1)) old[i] used) j g) used.length ⟨0,rfl,by omega,rfl,rfl⟩ fun g' s hs=>?_) fun p hp=>?_
    · obtain⟨j,j1,j2,j3,j7⟩:=hs
      obtain⟨sj,u⟩:=s
      dsimp only at j1 j3 ⊢
      subst j1;subst j3
      refine Ok.ite (fun hj=>?_) (fun hj=>?_)
      · have hj:(j:Int)<used0.length:=of_decide_eq_true hj
        cases g' with
        | zero=>omega
        | succ g'=>
          obtain⟨e,b1,b2,b3,b4,b5,b6⟩:=h4.at (j:=j) (by omega)
          have hju:j<u.length:=by omega
          have ei:idx u (j:Int)=some (uf u j):=by rw[QbE,e]
          have nofit:fit lo hi (old.drop (i+1)) old[i] u j=false→∃k',k'<g'+1∧∃j':Nat,IntKind.i64.wrap ((j:Int)+1)=j'∧j'+k'=u.length∧u=u∧seek (fit lo hi (old.drop (i+1)) old[i] u) 0 u.length=seek (fit lo hi (old.drop (i+1)) old[i] u) j' k':=fun hf=>
            ⟨g',by omega,j+1,by rw[w64 (by omega) (by omega)];rfl,by omega,rfl,by rw[j7,Qfm hf]⟩
          unfold jn
          rw[ei]
          simp only[Option.bind_some]
          refine Ok.ite (fun hu=>?_) (fun hu=>?_)
          · have hu:uf u j≥hi:=of_decide_eq_true hu
            refine Ok.mk (nofit ?_)
            unfold fit
            rw[decide_eq_false (by omega)];rfl
          · have hu:¬uf u j≥hi:=of_decide_eq_false hu
            rw[w64 (n:=uf u j+1) (by omega) (by omega),Qdj hju]
            simp only[Option.bind_some]
            have em:u.set j (uf u j+1)=more u j:=rfl
            have ew:IntKind.i64.wrap ((i:Int)+1)=((i+1:Nat):Int):=by rw[w64 (by omega) (by omega)];rfl
            rw[em,ew,esub (i+1) (by omega)]
            simp only[Option.bind_some]
            rw[QeO (QbJ h4 hju (by omega)) hl1,QbI hju,Qag]
            simp only[Option.bind_some]
            have hb:=Qf2 (QbJ h4 hju (by omega)) hl1
            rw[QbI hju,Qag] at hb
            rw[QdL hil]
            simp only[Option.bind_some]
            have hall:((if ((old[i]==(j:Int))&&(decide (QL lo hi u.length (kc (old.drop (i+1))) (up (uf u) j 1) ((old.drop (i+1)).length:Nat)≥(0:Int))))=true then (some (IntKind.i64.wrap (QL lo hi u.length (kc (old.drop (i+1))) (up (uf u) j 1) ((old.drop (i+1)).length:Nat)+(1:Int)))) else (some (QL lo hi u.length (kc (old.drop (i+1))) (up (uf u) j 1) ((old.drop (i+1)).length:Nat)))):Option Int)=some (QbH lo hi (old.drop (i+1)) old[i] u j):=by
              unfold QbH
              rw[w64 (by omega) (by omega)]
              by_cases q1:old[i]=(j:Int)
              · have q2:((j:Int)==old[i])=true:=by simpa using q1.symm
                have q3:(old[i]==(j:Int))=true:=by simpa using q1
                rw[q2,q3,Bool.true_and,Bool.and_true]
                split<;>rfl
              · have q2:((j:Int)==old[i])=false:=by simpa using fun h=>q1 h.symm
                have q3:(old[i]==(j:Int))=false:=by simpa using q1
                rw[q2,q3,Bool.false_and,Bool.and_false,if_neg (by decide),if_neg (by decide)]
            rw[hall]
            simp only[Option.bind_some]
            have ef:fit lo hi (old.drop (i+1)) old[i] u j=(QbH lo hi (old.drop (i+1)) old[i] u j==allP lo hi (old[i]::old.drop (i+1)) u):=by unfold fit;rw[decide_eq_true (by omega),Bool.true_and]
            refine Ok.ite (fun hs=>?_) (fun hs=>?_)
            · refine Ok.rm (by simp;omega) (Ok.mk ?_)
              have hf:fit lo hi (old.drop (i+1)) old[i] u j=true:=by rw[ef];exact hs
              dsimp only
              rw[j7,QgB hf]
              exact⟨rfl,rfl⟩
            · have hf:fit lo hi (old.drop (i+1)) old[i] u j=false:=by rw[ef];exact hs
              have hjm:j<(more u j).length:=by rw[Qag];exact hju
              have e1:idx (more u j) (j:Int)=some (uf u j+1):=by
                rw[Qcx (by omega) (by omega)]
                have:=congrFun (QbI hju) j
                rw[Qax] at this
                exact congrArg some this
              rw[e1]
              simp only[Option.bind_some]
              rw[w64 (n:=uf u j+1 - 1) (by omega) (by omega),Qdj hjm]
              simp only[Option.bind_some]
              have e2:(more u j).set j (uf u j+1 - 1)=u:=by
                unfold more
                rw[List.set_set,show uf u j+1 - 1=uf u j by omega]
                have:uf u j=u[j]:=by unfold uf lv;rw[Int.toNat_natCast,List.getElem?_eq_getElem hju];rfl
                rw[this,List.set_getElem_self]
              rw[e2]
              exact Ok.mk (nofit hf)
      · have hj:¬(j:Int)<used0.length:=of_decide_eq_false hj
        have:g'=0:=by omega
        subst this
        refine Ok.mk ?_
        dsimp only
        rw[j7]
        exact⟨rfl,rfl⟩
    · obtain⟨a4,a5⟩:=p
      dsimp only at hp ⊢
      cases hsk:seek (fit lo hi (old.drop (i+1)) old[i] used) 0 used.length with
      | none=>
        rw[hsk] at hp h9
        obtain⟨p4,p5⟩:=hp
        subst p4;subst p5
        exact Ok.mk ⟨g - 1,by omega,i+1,by rw[w64 (by omega) (by omega)];rfl,by omega,by dsimp only;omega,h4,h5,h9⟩
      | some j=>
        rw[hsk] at hp h9
        obtain⟨p4,p5⟩:=hp
        subst p4;subst p5
        obtain⟨_,q1,q2⟩:=QcU hsk
        refine Ok.mk ⟨g - 1,by omega,i+1,by rw[w64 (by omega) (by omega)];rfl,by omega,by simp;omega,QbJ h4 (by omega) (Qf4 q2),by dsimp only;rw[Qag];exact h5,?_⟩
        rw[←h9];simp
  · have hi':¬(i:Int)<old.length:=of_decide_eq_false hi'
    have:i=old.length:=by omega
    subst this
    rw[List.drop_length] at h9
    refine Ok.mk ?_
    have h9:out++[]=(G lo hi old used0).1:=h9
    rw[List.append_nil] at h9
    exact h9

end Go.Proofs.Ytbggdodepjhliaa

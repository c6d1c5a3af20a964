/- Edit: the loops of the greedy choice. No condition. -/
import Derived.Test.YtbggdodepjhliaaEdK
namespace Go.Proofs.Ytbggdodepjhliaa
open Go.Sim

theorem Qfl {lo hi:Int} {c:Int} {rest used:List Int}:G lo hi (c::rest) used=(match seek (fit lo hi rest c used) 0 used.length with
    | some j=>((j:Int)::(G lo hi rest (more used j)).1,(G lo hi rest (more used j)).2)
    | none=>G lo hi rest used):=rfl
theorem QgU {lo hi:Int} {c:Int} {rest used:List Int} {j:Nat} (h:fit lo hi rest c used j=true):uf used j<hi:=by
  unfold fit at h
  simp only[Bool.and_eq_true,decide_eq_true_eq] at h
  exact h.1
theorem QhV {p:Nat→Bool} {j g:Nat} (hj:p j=true):seek p j (g+1)=some j:=if_pos hj
theorem QgV {p:Nat→Bool} {j g:Nat} (hj:p j=false):seek p j (g+1)=seek p (j+1) g:=if_neg (by rw[hj];decide)

theorem Qfx {lo hi:Int} {old used0:List Int} (h:Qa8 used0 lo hi) (ho:old.length≤600):
    Ok (Ql (fun (s19:Int×List Int×List Int×(List Int)×Int×Int)=>((if (decide (s19.1<(old.length:Int)))=true then (idx old s19.1).bind fun t84=>(QU (Qx.mk s19.2.2.2.1 s19.2.2.1 s19.2.2.2.2.1 s19.2.2.2.2.2) s19.1).bind fun t88=>(Ql (fun (s163:Int×List Int×(List Int)×Int×Int)=>((if (decide (s163.1<(used0.length:Int)))=true then (QaW s163.1 (Qx.mk s163.2.2.1 s163.2.1 s163.2.2.2.1 s163.2.2.2.2) s19.1 t84 t88).bind fun t96=>(if t96.1=true then (rm (s19.2.1.length+[s163.1].length)).bind fun _=>(some (.inr ((t96.2).old,(t96.2).lo,(t96.2).hi,(t96.2).used,(s19.2.1++[s163.1])))) else (some (.inl ((IntKind.i64.wrap (s163.1+(1:Int))),(t96.2).used,(t96.2).old,(t96.2).lo,(t96.2).hi)))) else (some (.inr (s163.2.2.1,s163.2.2.2.1,s163.2.2.2.2,s163.2.1,s19.2.1)))):Option ((Int×List Int×(List Int)×Int×Int)⊕(((List Int)×Int×Int×List Int×List Int))))) ((0:Int),s19.2.2.1,s19.2.2.2.1,s19.2.2.2.2.1,s19.2.2.2.2.2)).bind fun (p181:((List Int)×Int×Int×List Int×List Int))=>(some (.inl ((IntKind.i64.wrap (s19.1+(1:Int))),p181.2.2.2.2,p181.2.2.2.1,p181.1,p181.2.1,p181.2.2.1))) else (some (.inr (s19.2.1,s19.2.2.1,s19.2.2.2.1,s19.2.2.2.2.1,s19.2.2.2.2.2)))):Option ((Int×List Int×List Int×(List Int)×Int×Int)⊕((List Int×List Int×(List Int)×Int×Int))))) ((0:Int),([]:List Int),used0,old,lo,hi)) (fun p=>p=((G lo hi old used0).1,(G lo hi old used0).2,old,lo,hi)):=by
  refine Ok.loop (fun g s=>∃i:Nat,s.1=i∧i+g=old.length∧s.2.1.length≤i∧Qa8 s.2.2.1 lo hi∧s.2.2.1.length=used0.length∧s.2.2.2.1=old∧s.2.2.2.2.1=lo∧s.2.2.2.2.2=hi∧s.2.1++(G lo hi (old.drop i) s.2.2.1).1=(G lo hi old used0).1∧(G lo hi (old.drop i) s.2.2.1).2=(G lo hi old used0).2) old.length ⟨0,rfl,by omega,Nat.le_refl _,h,rfl,rfl,rfl,rfl,rfl,rfl⟩ fun g s hs=>?_
  obtain⟨i,h1,h2,h3,h4,h5,h6,h7,h8,h9,h10⟩:=hs
  obtain⟨si,out,used,so,sl,sh⟩:=s
  dsimp only at h1 h3 h4 h5 h6 h7 h8 h9 h10 ⊢
  subst h1;subst h6;subst h7;subst h8
  refine Ok.ite (fun hi'=>?_) (fun hi'=>?_)
  · have hi':(i:Int)<so.length:=of_decide_eq_true hi'
    refine Ok.idx (by omega) hi' fun c hc hic=>?_
    have hil:i<so.length:=by omega
    have hd:so.drop i=c::so.drop (i+1):=by
      rw[List.drop_eq_getElem_cons hil]
      have hic:so[i]?=some c:=by simpa using hic
      rw[List.getElem?_eq_getElem hil] at hic
      rw[Option.some.inj hic]
    rw[QfP h4 ho (by omega),hd]
    simp only[Option.bind_some]
    have ea:QL sl sh used.length (kc (c::so.drop (i+1))) (uf used) ((c::so.drop (i+1)).length:Nat)=allP sl sh (c::so.drop (i+1)) used:=rfl
    rw[ea]
    rw[hd,Qfl] at h9 h10
    have hlen:=h4.len
    refine Ok.bind (P:=fun p=>p.1=so∧p.2.1=sl∧p.2.2.1=sh∧(match seek (fit sl sh (so.drop (i+1)) c used) 0 used.length with | some j=>p.2.2.2.1=more used j∧p.2.2.2.2=out++[(j:Int)] | none=>p.2.2.2.1=used∧p.2.2.2.2=out)) (Ok.loop (fun g s=>∃j:Nat,s.1=j∧j+g=used.length∧s.2.1=used∧s.2.2.1=so∧s.2.2.2.1=sl∧s.2.2.2.2=sh∧seek (fit sl sh (so.drop (i+1)) c used) 0 used.length=seek (fit sl sh (so.drop (i+1)) c used) j g) used.length ⟨0,rfl,by omega,rfl,rfl,rfl,rfl,rfl⟩ fun g' s hs=>?_) fun p hp=>?_
    · obtain⟨j,j1,j2,j3,j4,j5,j6,j7⟩:=hs
      obtain⟨sj,u,so',sl',sh'⟩:=s
      dsimp only at j1 j3 j4 j5 j6 ⊢
      subst j1;subst j3;subst j4;subst j5;subst j6
      refine Ok.ite (fun hj=>?_) (fun hj=>?_)
      · have hj:(j:Int)<used0.length:=of_decide_eq_true hj
        cases g' with
        | zero=>omega
        | succ g'=>
          rw[QhU h4 ho hd (by omega)]
          simp only[Option.bind_some]
          refine Ok.ite (fun hf=>?_) (fun hf=>?_)
          · rw[if_pos hf]
            refine Ok.rm (by simp;omega) (Ok.mk ⟨rfl,rfl,rfl,?_⟩)
            rw[j7,QhV hf]
            exact⟨rfl,rfl⟩
          · rw[hf,if_neg (by decide)]
            exact Ok.mk ⟨g',by omega,j+1,by rw[w64 (by omega) (by omega)];rfl,by omega,rfl,rfl,rfl,rfl,by rw[j7,QgV hf]⟩
      · have hj:¬(j:Int)<used0.length:=of_decide_eq_false hj
        have:g'=0:=by omega
        subst this
        refine Ok.mk ⟨rfl,rfl,rfl,?_⟩
        rw[j7]
        exact⟨rfl,rfl⟩
    · obtain⟨p1,p2,p3,p4⟩:=hp
      obtain⟨a1,a2,a3,a4,a5⟩:=p
      dsimp only at p1 p2 p3 p4 ⊢
      subst p1;subst p2;subst p3
      cases hsk:seek (fit a2 a3 (a1.drop (i+1)) c used) 0 used.length with
      | none=>
        rw[hsk] at p4 h9 h10
        obtain⟨p4,p5⟩:=p4
        subst p4;subst p5
        exact Ok.mk ⟨g - 1,by omega,i+1,by rw[w64 (by omega) (by omega)];rfl,by omega,by dsimp only;omega,h4,h5,rfl,rfl,rfl,h9,h10⟩
      | some j=>
        rw[hsk] at p4 h9 h10
        obtain⟨p4,p5⟩:=p4
        subst p4;subst p5
        obtain⟨_,q1,q2⟩:=Qcw hsk
        refine Ok.mk ⟨g - 1,by omega,i+1,by rw[w64 (by omega) (by omega)];rfl,by omega,by simp;omega,QcV h4 (by omega) (QgU q2),by dsimp only;rw[Q0];exact h5,rfl,rfl,rfl,?_,h10⟩
        rw[←h9];simp
  · have hi':¬(i:Int)<so.length:=of_decide_eq_false hi'
    have:i=so.length:=by omega
    subst this
    rw[List.drop_length] at h9 h10
    refine Ok.mk ?_
    have h9:out++[]=(G sl sh so used0).1:=h9
    have h10:used=(G sl sh so used0).2:=h10
    rw[List.append_nil] at h9
    rw[h9,h10]

end Go.Proofs.Ytbggdodepjhliaa

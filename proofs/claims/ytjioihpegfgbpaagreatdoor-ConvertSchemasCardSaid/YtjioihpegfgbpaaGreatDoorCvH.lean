/- The reference model's code of a small schema is there. No condition. -/
import Derived.Test.YtjioihpegfgbpaaGreatDoorCvS
set_option linter.all false
open List Go.IntKind
namespace Go.Proofs.YtjioihpegfgbpaaGreatDoor
open Go.Sim
theorem Qi2 {n B L:Nat} {out0:List Int} {body:Int×List Int->Option ((Int×List Int)⊕List Int)} (h0:out0.length<=L)
    (hs:∀i,i<n->∀out:List Int,out.length<=L+i * B->Ok (body ((i:Int),out)) (λo=>∃out',o=.inl (((i+1:Nat):Int),out')/\out'.length<=L+(i+1) * B))
    (he:∀out,body ((n:Int),out)=some (.inr out)):Ok (Qz body ((0:Int),out0)) (λr=>r.length<=L+n * B):=by
  refine Qyf n (λk s=>s.1=(k:Int)/\s.2.length<=L+k * B) _ ⟨rfl,by simpa using h0⟩ (λk s hk hI=>?_) (λs hI=>?_)
  · obtain⟨i,out⟩:=s;obtain⟨rfl,ho⟩:=hI;obtain⟨o,h1,out',rfl,h2⟩:=hs k hk out ho;exact⟨_,h1,rfl,h2⟩
  · obtain⟨i,out⟩:=s;obtain⟨rfl,ho⟩:=hI;exact⟨out,he out,ho⟩
theorem QhW {n:Int} (h:I64 n):Ok (Qb9 n) (λr=>r.length<=10):=by
  unfold Qb9;unfold I64 at h;refine Ok.bind (P:=λm:Int=>0<=m/\m<=9223372036854775807) (Ok.ite (λc=>Ok.mk ?_) (λc=>Ok.mk ?_)) λm hm=>?_
  · have:=Zq c;rw[w64 (by omega) (by omega)];omega
  · have:=ZZ c;omega
  refine Ok.bind (P:=λds:List Int=>ds.length<=8) (Ok.loop (λk s=>0<=s.1/\s.1<(256:Int) ^ k/\s.1<=9223372036854775807/\s.2.length+k=8) 8 ⟨hm.1,by show m<_;omega,hm.2,rfl⟩ λk s hs=>?_) λds hds=>?_
  · obtain⟨v,ds⟩:=s;obtain⟨h1,h2,h3,h4⟩:=hs;dsimp only at h1 h2 h3 h4 ⊢;refine Ok.ite (λc=>?_) (λc=>Ok.mk (by show ds.length<=8;omega));have c:=Zq c
    cases k with
    | zero=>simp at h2;omega
    | succ k=>
      rw[Int.pow_succ] at h2;refine Ok.rm (by simp;omega) (Ok.mk ⟨k,by omega,?_,?_,?_,by simp;omega⟩)
      all_goals
        dsimp only;rw[Int.tdiv_eq_ediv_of_nonneg h1,w64 (by omega) (by omega)];omega
  refine Ok.bind (P:=λl:List Int=>l.length=1) (Ok.ite (λ_=>Ok.rm (by simp) (Ok.mk rfl)) (λ_=>Ok.rm (by simp) (Ok.mk rfl))) λl hl=>?_;refine Ok.same (Ok.loop (λk s=>s.1+1=k/\k<=ds.length/\s.2.length+k=1+ds.length) ds.length ⟨by show i64.wrap _+1=_;rw[w64 (by omega) (by omega)];omega,by omega,by show l.length+_=_;omega⟩ λk s hs=>?_);obtain⟨i,out⟩:=s;obtain⟨h1,h2,h3⟩:=hs;dsimp only at h1 h2 h3 ⊢;refine Ok.ite (λc=>?_) (λc=>Ok.mk (by show out.length<=10;omega));have c:0<=i:=Zq c;refine Ok.idx c (by omega) λv _ _=>?_;refine Ok.bind (P:=λ_=>True) (Ok.ite (λ_=>Ok.mk trivial) (λ_=>Ok.mk trivial)) λw _=>?_;exact Ok.rm (by simp;omega) (Ok.mk ⟨k - 1,by omega,by show _=_;rw[w64 (by omega) (by omega)];omega,by omega,by simp;omega⟩)
theorem QnY {s:Str} (h:s.length<=12):Ok (QeN s) (λr=>r.length<=22):=by
  have hb:(Q3 s).length=s.length:=by simp[Q3]
  unfold QeN;refine (QhW (show I64 (s.length:Int) by unfold I64;omega)).bind λr hr=>Ok.rm (by omega) (Ok.mk (by rw[Zd];omega))
theorem Qnr {l:List Int} (h:∀x∈l,I64 x) (hl:l.length<=100):Ok (Qem l) (λr=>r.length<=1100):=by unfold Qem;refine (QhW (show I64 (l.length:Int) by unfold I64;omega)).bind λr hr=>Ok.same ((Qi2 (n:=l.length) (B:=10) (L:=10) hr (λi hi out ho=>?_) (λout=>by exact Zb (by simp))).Xn λr hr=>by omega);dsimp only;rw[Ze (by simpa using hi),Qaa hi];simp only[Za];exact (QhW (h _ (Zn hi))).bind λp hp=>Ok.rm (by omega) (Ok.mk ⟨_,by rw[QT hi (by omega)],by rw[Zd];omega⟩)
theorem QjS {l:List Str} (h:∀x∈l,x.length<=12) (hl:l.length<=12):Ok (Qc3 l) (λr=>r.length<=300):=by unfold Qc3;refine (QhW (show I64 (l.length:Int) by unfold I64;omega)).bind λr hr=>Ok.same ((Qi2 (n:=l.length) (B:=22) (L:=10) hr (λi hi out ho=>?_) (λout=>by exact Zb (by simp))).Xn λr hr=>by omega);dsimp only;rw[Ze (by simpa using hi),Qaa hi];simp only[Za];exact (QnY (h _ (Zn hi))).bind λp hp=>Ok.rm (by omega) (Ok.mk ⟨_,by rw[QT hi (by omega)],by rw[Zd];omega⟩)
theorem Qns (n:Nat) (h:n<=1000):I64 (n:Int):=by unfold I64;omega
theorem Qvq {x:Qa} (h:Qko x):Ok (Qe2 x) (λr=>r.length<=1000000):=by
  have hk1:=h.kinds.1;have hl1:=h.lives.1;have hr1:=h.rules.1;unfold Qe2;refine (QhW h.version).bind λa ha=>(QhW (Qns x.Xa.length (by omega))).bind λb hb=>Ok.rm (by omega) ?_;refine (Qi2 (n:=x.Xa.length) (B:=40000) (L:=20) (by rw[Zd];omega) (λi hi out ho=>?_) (λout=>by exact Zb (by simp))).bind λc hc=>?_
  · have hK:=h.kinds.2 _ (Zn hi);have hf1:=hK.fields.1;dsimp only;rw[Ze (by simpa using hi),Qaa hi];simp only[Za];refine (QnY hK.name).bind λp1 q1=>Ok.rm (by omega) ((Qnr (l:=[x.Xa[i].Lo,x.Xa[i].Hi]) (λv hv=>by simp only[Zm,Zr,ZJ] at hv;rcases hv with rfl | rfl<;>first | exact hK.lo | exact hK.hi) (by simp)).bind λp2 q2=>Ok.rm (by simp;omega) ((QhW (Qns x.Xa[i].Xb.length (by omega))).bind λp3 q3=>Ok.rm (by simp;omega) ?_));refine (Qi2 (n:=x.Xa[i].Xb.length) (B:=3000) (L:=out.length+2000) (by simp;omega) (λj hj out2 ho2=>?_) (λout=>by exact Zb (by simp))).bind λp4 q4=>Ok.mk ⟨_,by rw[QT hi (by omega)],by omega⟩;have hF:=hK.fields.2 _ (Zn hj);dsimp only;rw[Ze (by simpa using hj),Qaa hj];simp only[Za];refine (QjS (l:=[x.Xa[i].Xb[j].Xi,x.Xa[i].Xb[j].Of,x.Xa[i].Xb[j].Up]) (λv hv=>by simp only[Zm,Zr,ZJ] at hv;rcases hv with rfl | rfl | rfl<;>first | exact hF.name | exact hF.of | exact hF.up) (by simp)).bind λp5 q5=>Ok.rm (by omega) ?_;refine (Qnr (l:=[x.Xa[i].Xb[j].Xh,x.Xa[i].Xb[j].Lo,x.Xa[i].Xb[j].Hi]) (λv hv=>by simp only[Zm,Zr,ZJ] at hv;rcases hv with rfl | rfl | rfl<;>first | exact hF.kind | exact hF.lo | exact hF.hi) (by simp)).bind λp6 q6=>Ok.rm (by simp;omega) ?_;exact (QjS hF.words.2 hF.words.1).bind λp7 q7=>Ok.rm (by simp;omega) ((Qnr hF.weights.2 (by have:=hF.weights.1;omega)).bind λp8 q8=>Ok.rm (by simp;omega) (Ok.mk ⟨_,by rw[QT hj (by omega)],by simp;omega⟩))
  refine (QhW (Qns x.Xd.length (by omega))).bind λd hd=>Ok.rm (by omega) ?_;refine (Qi2 (n:=x.Xd.length) (B:=40000) (L:=250000) (by rw[Zd];omega) (λi hi out ho=>?_) (λout=>by exact Zb (by simp))).bind λe he=>?_
  · have hL:=h.lives.2 _ (Zn hi);have hm1:=hL.moves.1;dsimp only;rw[Ze (by simpa using hi)];refine Ok.bind (P:=λl:List Int=>l.length<=64/\∀v∈l,I64 v) (Ok.loop (λk s=>0<=s.1/\s.1+k=x.Xd[i].Xg.length/\s.2.length<=2 * s.1.toNat/\∀v∈s.2,I64 v) x.Xd[i].Xg.length ⟨ZF _,by simp,by simp,by simp⟩ λk s hs=>?_) λl hl=>?_
    · obtain⟨j,out⟩:=s;obtain⟨h1,h2,h3,h4⟩:=hs;dsimp only at h1 h2 h3 h4 ⊢;rw[Qaa hi];simp only[Za];refine Ok.ite (λc=>?_) (λc=>Ok.mk ⟨by omega,h4⟩);have c:=Zq c;refine Ok.idx h1 c λv hv hv2=>?_;rw[QfR _ h1,hv2];simp only[Za];refine Ok.rm (by simp;omega) (Ok.mk ⟨k - 1,by omega,?_,?_,?_,?_⟩)
      · show 0<=i64.wrap _;rw[w64 (by omega) (by omega)];omega
      · show i64.wrap _+_=_;rw[w64 (by omega) (by omega)];omega
      · show (out++[v.a0,v.a1]).length<=2 * (i64.wrap _).toNat;rw[w64 (by omega) (by omega)];simp;omega
      · intro u hu;rcases ZH.1 hu with hu | hu
        · exact h4 u hu
        · have:=hL.moves.2 v hv;simp only[Zm,Zr,ZJ] at hu;rcases hu with rfl | rfl
          · exact this.1
          · exact this.2
    · rw[Qaa hi];simp only[Za];exact (QnY hL.name).bind λp1 q1=>Ok.rm (by omega) ((QjS hL.states.2 hL.states.1).bind λp2 q2=>Ok.rm (by simp;omega) ((Qnr hl.2 (by omega)).bind λp3 q3=>Ok.rm (by simp;omega) (Ok.mk ⟨_,by rw[QT hi (by omega)],by simp;omega⟩)))
  refine (QhW (Qns x.Xc.length (by omega))).bind λf hf=>Ok.rm (by omega) ?_;refine Ok.same ((Qi2 (n:=x.Xc.length) (B:=400) (L:=500000) (by rw[Zd];omega) (λi hi out ho=>?_) (λout=>by exact Zb (by simp))).Xn λr hr=>by omega);have hR:=h.rules.2 _ (Zn hi);dsimp only;rw[Ze (by simpa using hi),Qaa hi];simp only[Za];refine (QjS (l:=[x.Xc[i].Xi,x.Xc[i].Xh,x.Xc[i].A,x.Xc[i].B]) (λv hv=>by simp only[Zm,Zr,ZJ] at hv;rcases hv with rfl | rfl | rfl | rfl<;>first | exact hR.name | exact hR.kind | exact hR.a | exact hR.b) (by simp)).bind λp1 q1=>Ok.rm (by omega) ?_;exact (QhW hR.n).bind λp2 q2=>Ok.rm (by simp;omega) (Ok.mk ⟨_,by rw[QT hi (by omega)],by simp;omega⟩)
theorem QtK:Qko Qjg:=⟨Qhn,⟨by decide,λk hk=>by cases hk⟩,⟨by decide,λk hk=>by cases hk⟩,by decide,λk hk=>by cases hk⟩
theorem Qvr {l:List Int} (hl:l.length<=1000000000):QhS l l=some true:=by
  unfold QhS;rw[Zb (by simp),QcV l (λ_=>true) false (λk hk=>?_) (by exact Zb (by simp))]
  · rw[show (l.all λ_=>true)=true by simp];rfl
  · rw[Ze (by simpa using hk),Qaa hk];simp only[Za];rw[Zb (by simp),QT hk (by omega)];rfl
theorem Qse {x:Qa} (h:Qko x):QgB x x=some true:=by obtain⟨l,hl,hb⟩:=Qvq h;unfold QgB;rw[hl];simp only[Za];rw[Qvr (by omega)];rfl

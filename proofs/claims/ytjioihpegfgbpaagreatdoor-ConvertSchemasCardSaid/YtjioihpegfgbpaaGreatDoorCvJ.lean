/- ConvertSchemas. No condition. -/
import Derived.Test.YtjioihpegfgbpaaGreatDoorCvI
import Derived.Test.YtjioihpegfgbpaaGreatDoorEvalA
set_option linter.all false
open List
namespace Go.Proofs.YtjioihpegfgbpaaGreatDoor
open Go.Sim
theorem Sz.mid {x:Qa} (h:Sz x):Mid 500 x:=by
  obtain⟨⟨a1,a2⟩,⟨b1,b2⟩,c,_⟩:=h;refine⟨⟨by omega,λk hk=>⟨by have:=(a2 k hk).1;omega,λf hf=>?_⟩⟩,⟨by omega,λl hl=>?_⟩,by omega⟩
  · have:=(a2 k hk).2.1 f hf;exact⟨by have:=this.1;omega,by have:=this.2.1;omega⟩
  · have:=b2 l hl;exact⟨by omega,by omega⟩
theorem Qmj (l m:List Int) (a h b o:Int) (i0:∀x∈l,I64 x) (i1:∀x∈m,I64 x) (i2:I64 a) (i3:I64 h) (i4:I64 b) (i5:I64 o):Qc7 l m a h b o=some true:=by
  have key:Ok (Qc7 l m a h b o) (λr=>r=true):=by
    unfold Qc7;refine (QuV i0).bind λx hx=>?_;have hm:=(hx.sz (by decide)).mid;refine (QwM hm i1).bind λs hs=>(Qp5 (by omega) i2 i3 i4).bind λone h1=>(QuW hx i2 i3 i4).bind λy hy=>(Qp5 (by omega) i4 i5 i2).bind λtwo h2=>Ok.around i5 (by decide) λn n0 n1=>?_;rw[w64 (by omega) (by omega)];refine Ok.mk' (by omega) (by omega) ?_;have hS:∀z∈[x,y],Mid 500 z:=λz hz=>by
      simp only[Zm,Zr,ZJ] at hz;rcases hz with rfl | rfl
      · exact hm
      · exact hy.mid
    have hL:∀w∈[s,one,two,replicate (30+n).toNat (Qt.mk 0 [] [] [] 0 0),[]],w.length<=1000:=λw hw=>by
      simp only[Zm,Zr,ZJ] at hw;rcases hw with rfl | rfl | rfl | rfl | rfl
      · omega
      · omega
      · omega
      · rw[Ym];omega
      · exact Nat.zero_le _
    have hLL:[s,one,two,replicate (30+n).toNat (Qt.mk 0 [] [] [] 0 0),[]].length<=9223372036854775807:=by simp
    generalize [s,one,two,replicate (30+n).toNat (Qt.mk 0 [] [] [] 0 0),[]]=L at hL hLL ⊢;have hX:[x,y].length=2:=rfl;generalize [x,y]=X at hS hX ⊢;rw[QcV X (λ_=>true) false (λi hi=>?_) (by rw[hX];rfl)]
    · rw[show (X.all λ_=>true)=true by simp,Ze rfl];simp only[Za];rw[QtN];exact Ok.mk rfl
    · rw[Ze (decide_eq_true (by omega))];rw[QcV L (λ_=>true) false (λk hk=>?_) (by exact Zb (by simp))]
      · rw[show (L.all λ_=>true)=true by simp,Ze rfl,Ze rfl,QT hi (by omega)];rfl
      · have hl:=hL _ (Zn hk);obtain⟨z,e,c,e1,e2,e3,e4,e5⟩:=QrJ L[k] (hS _ (Zn hi)) hl;have hsame:QgB z z=some true:=Qse (e5.elim (λh=>h▸QtK) id);rw[Ze (by simpa using hk),Qaa hi,Qaa hk];simp only[Za,QwL hl,e1,e2,e3,e4];rw[Ze trivial,bne_self_eq_false,bne_self_eq_false,hsame,QT hk hLL];rfl
  obtain⟨r,hr,rfl⟩:=key;exact hr
